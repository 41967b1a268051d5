-- Printed by a program of this session (wip/tools/gp.sh); Lean checks it.
import Derived.Test.YtkjfoejiickphaaGx0
import Derived.Test.YtkjfoejiickphaaGx3
import Derived.Test.YtkjfoejiickphaaGx4
import Derived.Test.YtkjfoejiickphaaGx6
import Derived.Test.YtkjfoejiickphaaGx7
import Derived.Test.YtkjfoejiickphaaGx27
namespace Go.Proofs.Ytkjfoejiickphaa.G
open Go.RowKit Go.Proofs.YtkjfoejiickphaaW.PrintWords Go.Proofs.YtkjfoejiickphaaW.PrintLast Go.Proofs.YtkjfoejiickphaaW.PrintMore
attribute [local go_sem] max2_int min2_int max_two min_two max_three min_three max_four min_four   -- for this text's walks alone
set_option linter.unusedVariables false
set_option linter.unusedSimpArgs false

/-! ### laws_FnExactStripBorder: function 13 -/
mutual
def laws_FnExactStripBorder.j0 : Nat → Bool → Bool → Bool → Int → Int → List Int → Int → Int → List Int → Int → Int → List Int → Int → Int → List Int → Option (Bool)
  | 0, _, _, _, _, _, _, _, _, _, _, _, _, _, _, _ => none
  | k + 1, x5, x8, x40, x583000, x583001, x583002, x596000, x596001, x596002, x602000, x602001, x602002, x609000, x609001, x609002 => if x40 = true then (some false) else ((laws_toChart.f k x583000 x583001 x583002).bind fun bt610 => ((laws_eqChart.f k x602000 x602001 x602002 bt610.1 bt610.2.1 bt610.2.2).bind fun t615 => (if t615 = true then ((laws_markChart.f k x602000 x602001 x602002 1).bind fun bt616 => (if bt616.1 < 0 then (laws_FnExactStripBorder.j1 k x5 true x583000 x583001 x583002 x596000 x596001 x596002 x609000 x609001 x609002) else ((laws_eqChart.f k x609000 x609001 x609002 x596000 x596001 x596002).bind fun t618 => (if t618 = true then (laws_FnExactStripBorder.j1 k x5 (x8 != x5) x583000 x583001 x583002 x596000 x596001 x596002 x609000 x609001 x609002) else (laws_FnExactStripBorder.j1 k x5 true x583000 x583001 x583002 x596000 x596001 x596002 x609000 x609001 x609002))))) else (some false))))
def laws_FnExactStripBorder.j1 : Nat → Bool → Bool → Int → Int → List Int → Int → Int → List Int → Int → Int → List Int → Option (Bool)
  | 0, _, _, _, _, _, _, _, _, _, _, _ => none
  | k + 1, x5, x61, x583000, x583001, x583002, x596000, x596001, x596002, x609000, x609001, x609002 => if x61 = true then (some false) else ((laws_markChart.f k x609000 x609001 x609002 1).bind fun bt619 => ((laws_heldChart.f k x609000 x609001 bt619.2 1).bind fun t621 => (if t621 < 0 then (some false) else (if t621 = bt619.1 then ((laws_toChart.f k x583000 x583001 x583002).bind fun bt622 => ((impl_StripBorder.f bt622.1 bt622.2.1 bt622.2.2).bind fun bt627 => ((laws_eqChart.f k bt627.1 bt627.2.1 bt627.2.2.1 x596000 x596001 x596002).bind fun t634 => (if t634 = true then (laws_FnExactStripBorder.j2 k bt619.1 (bt627.2.2.2 != x5) x609000 x609001 bt619.2) else (laws_FnExactStripBorder.j2 k bt619.1 true x609000 x609001 bt619.2))))) else (some false)))))
def laws_FnExactStripBorder.j2 : Nat → Int → Bool → Int → Int → List Int → Option (Bool)
  | 0, _, _, _, _, _ => none
  | k + 1, x10, x87, x609000, x609001, x609002 => if x87 = true then (some false) else ((laws_heldChart.f k x609000 x609001 x609002 1).bind fun t635 => (if t635 < 0 then (some false) else (if t635 = x10 then (some true) else (some false))))
end
def laws_FnExactStripBorder.f (k : Nat) (a0_0 : Int) (a0_1 : Int) (l0_2 : List Int) : Option (Bool) := (laws_szChart.f a0_0 a0_1 l0_2 1048576).bind fun t583 => (if t583 < 0 then (some true) else ((laws_toChart.f k a0_0 a0_1 l0_2).bind fun bt584 => ((spec_StripBorder.f k bt584.1 bt584.2.1 bt584.2.2).bind fun bt589 => ((laws_toChart.f k a0_0 a0_1 l0_2).bind fun bt596 => ((impl_StripBorder.f bt596.1 bt596.2.1 bt596.2.2).bind fun bt602 => ((laws_eqChart.f k bt602.1 bt602.2.1 bt602.2.2.1 bt589.1 bt589.2.1 bt589.2.2.1).bind fun t609 => (if t609 = true then (laws_FnExactStripBorder.j0 k bt589.2.2.2 bt602.2.2.2 (bt602.2.2.2 != bt589.2.2.2) a0_0 a0_1 l0_2 bt589.1 bt589.2.1 bt589.2.2.1 bt596.1 bt596.2.1 bt596.2.2 bt602.1 bt602.2.1 bt602.2.2.1) else (laws_FnExactStripBorder.j0 k bt589.2.2.2 bt602.2.2.2 true a0_0 a0_1 l0_2 bt589.1 bt589.2.1 bt589.2.2.1 bt596.1 bt596.2.1 bt596.2.2 bt602.1 bt602.2.1 bt602.2.2.1))))))))
theorem laws_FnExactStripBorder.mono_l : ∀ k, (∀ y0 y1 y2 y3 y4 y5 y6 y7 y8 y9 y10 y11 y12 y13 y14, LeO (laws_FnExactStripBorder.j0 k y0 y1 y2 y3 y4 y5 y6 y7 y8 y9 y10 y11 y12 y13 y14) (laws_FnExactStripBorder.j0 (k + 1) y0 y1 y2 y3 y4 y5 y6 y7 y8 y9 y10 y11 y12 y13 y14)) ∧ (∀ y0 y1 y2 y3 y4 y5 y6 y7 y8 y9 y10, LeO (laws_FnExactStripBorder.j1 k y0 y1 y2 y3 y4 y5 y6 y7 y8 y9 y10) (laws_FnExactStripBorder.j1 (k + 1) y0 y1 y2 y3 y4 y5 y6 y7 y8 y9 y10)) ∧ (∀ y0 y1 y2 y3 y4, LeO (laws_FnExactStripBorder.j2 k y0 y1 y2 y3 y4) (laws_FnExactStripBorder.j2 (k + 1) y0 y1 y2 y3 y4))
  | 0 => ⟨fun _ _ _ _ _ _ _ _ _ _ _ _ _ _ _ r h => by simp [laws_FnExactStripBorder.j0] at h, fun _ _ _ _ _ _ _ _ _ _ _ r h => by simp [laws_FnExactStripBorder.j1] at h, fun _ _ _ _ _ r h => by simp [laws_FnExactStripBorder.j2] at h⟩
  | k + 1 => by
    obtain ⟨ih0, ih1, ih2⟩ := laws_FnExactStripBorder.mono_l k
    refine ⟨?_, ?_, ?_⟩
    · intro y0 y1 y2 y3 y4 y5 y6 y7 y8 y9 y10 y11 y12 y13 y14
      unfold laws_FnExactStripBorder.j0
      repeat' first
      | (with_reducible exact ih0 _ _ _ _ _ _ _ _ _ _ _ _ _ _ _)
      | (with_reducible exact ih1 _ _ _ _ _ _ _ _ _ _ _)
      | (with_reducible exact ih2 _ _ _ _ _)
      | (with_reducible exact laws_eqChart.mono _ _ _ _ _ _ _)
      | (with_reducible exact laws_heldChart.mono _ _ _ _ _)
      | (with_reducible exact laws_markChart.mono _ _ _ _ _)
      | (with_reducible exact laws_toChart.mono _ _ _ _)
      | (with_reducible exact spec_StripBorder.mono _ _ _ _)
      | (with_reducible exact LeO.refl _)
      | (with_reducible exact LeO.none _)
      | (with_reducible refine LeO.ite ?_ ?_)
      | (with_reducible refine LeO.bind ?_ (fun _ => ?_))
      | exact ih0 _ _ _ _ _ _ _ _ _ _ _ _ _ _ _
      | exact ih1 _ _ _ _ _ _ _ _ _ _ _
      | exact ih2 _ _ _ _ _
      | exact laws_eqChart.mono _ _ _ _ _ _ _
      | exact laws_heldChart.mono _ _ _ _ _
      | exact laws_markChart.mono _ _ _ _ _
      | exact laws_toChart.mono _ _ _ _
      | exact spec_StripBorder.mono _ _ _ _
      | exact LeO.none _
      | refine LeO.ite ?_ ?_
      | refine LeO.bind ?_ (fun _ => ?_)
    · intro y0 y1 y2 y3 y4 y5 y6 y7 y8 y9 y10
      unfold laws_FnExactStripBorder.j1
      repeat' first
      | (with_reducible exact ih0 _ _ _ _ _ _ _ _ _ _ _ _ _ _ _)
      | (with_reducible exact ih1 _ _ _ _ _ _ _ _ _ _ _)
      | (with_reducible exact ih2 _ _ _ _ _)
      | (with_reducible exact laws_eqChart.mono _ _ _ _ _ _ _)
      | (with_reducible exact laws_heldChart.mono _ _ _ _ _)
      | (with_reducible exact laws_markChart.mono _ _ _ _ _)
      | (with_reducible exact laws_toChart.mono _ _ _ _)
      | (with_reducible exact spec_StripBorder.mono _ _ _ _)
      | (with_reducible exact LeO.refl _)
      | (with_reducible exact LeO.none _)
      | (with_reducible refine LeO.ite ?_ ?_)
      | (with_reducible refine LeO.bind ?_ (fun _ => ?_))
      | exact ih0 _ _ _ _ _ _ _ _ _ _ _ _ _ _ _
      | exact ih1 _ _ _ _ _ _ _ _ _ _ _
      | exact ih2 _ _ _ _ _
      | exact laws_eqChart.mono _ _ _ _ _ _ _
      | exact laws_heldChart.mono _ _ _ _ _
      | exact laws_markChart.mono _ _ _ _ _
      | exact laws_toChart.mono _ _ _ _
      | exact spec_StripBorder.mono _ _ _ _
      | exact LeO.none _
      | refine LeO.ite ?_ ?_
      | refine LeO.bind ?_ (fun _ => ?_)
    · intro y0 y1 y2 y3 y4
      unfold laws_FnExactStripBorder.j2
      repeat' first
      | (with_reducible exact ih0 _ _ _ _ _ _ _ _ _ _ _ _ _ _ _)
      | (with_reducible exact ih1 _ _ _ _ _ _ _ _ _ _ _)
      | (with_reducible exact ih2 _ _ _ _ _)
      | (with_reducible exact laws_eqChart.mono _ _ _ _ _ _ _)
      | (with_reducible exact laws_heldChart.mono _ _ _ _ _)
      | (with_reducible exact laws_markChart.mono _ _ _ _ _)
      | (with_reducible exact laws_toChart.mono _ _ _ _)
      | (with_reducible exact spec_StripBorder.mono _ _ _ _)
      | (with_reducible exact LeO.refl _)
      | (with_reducible exact LeO.none _)
      | (with_reducible refine LeO.ite ?_ ?_)
      | (with_reducible refine LeO.bind ?_ (fun _ => ?_))
      | exact ih0 _ _ _ _ _ _ _ _ _ _ _ _ _ _ _
      | exact ih1 _ _ _ _ _ _ _ _ _ _ _
      | exact ih2 _ _ _ _ _
      | exact laws_eqChart.mono _ _ _ _ _ _ _
      | exact laws_heldChart.mono _ _ _ _ _
      | exact laws_markChart.mono _ _ _ _ _
      | exact laws_toChart.mono _ _ _ _
      | exact spec_StripBorder.mono _ _ _ _
      | exact LeO.none _
      | refine LeO.ite ?_ ?_
      | refine LeO.bind ?_ (fun _ => ?_)
theorem laws_FnExactStripBorder.mono : ∀ a0 a1 a2 k, LeO (laws_FnExactStripBorder.f k a0 a1 a2) (laws_FnExactStripBorder.f (k + 1) a0 a1 a2) := by
  intro a0 a1 a2 k
  obtain ⟨ih0, ih1, ih2⟩ := laws_FnExactStripBorder.mono_l k
  unfold laws_FnExactStripBorder.f
  repeat' first
      | (with_reducible exact ih0 _ _ _ _ _ _ _ _ _ _ _ _ _ _ _)
      | (with_reducible exact ih1 _ _ _ _ _ _ _ _ _ _ _)
      | (with_reducible exact ih2 _ _ _ _ _)
      | (with_reducible exact laws_eqChart.mono _ _ _ _ _ _ _)
      | (with_reducible exact laws_heldChart.mono _ _ _ _ _)
      | (with_reducible exact laws_markChart.mono _ _ _ _ _)
      | (with_reducible exact laws_toChart.mono _ _ _ _)
      | (with_reducible exact spec_StripBorder.mono _ _ _ _)
      | (with_reducible exact LeO.refl _)
      | (with_reducible exact LeO.none _)
      | (with_reducible refine LeO.ite ?_ ?_)
      | (with_reducible refine LeO.bind ?_ (fun _ => ?_))
      | exact ih0 _ _ _ _ _ _ _ _ _ _ _ _ _ _ _
      | exact ih1 _ _ _ _ _ _ _ _ _ _ _
      | exact ih2 _ _ _ _ _
      | exact laws_eqChart.mono _ _ _ _ _ _ _
      | exact laws_heldChart.mono _ _ _ _ _
      | exact laws_markChart.mono _ _ _ _ _
      | exact laws_toChart.mono _ _ _ _
      | exact spec_StripBorder.mono _ _ _ _
      | exact LeO.none _
      | refine LeO.ite ?_ ?_
      | refine LeO.bind ?_ (fun _ => ?_)
set_option maxHeartbeats 8000000 in
set_option maxRecDepth 100000 in
theorem laws_FnExactStripBorder.calls (k : Nat) (a0_0 : Int) (a0_1 : Int) (A0_2 : Option Addr) (c0_2 : Nat) (l0_2 : List Int) (r : Bool) (w : World) (hr0_2 : Kd.C (Kd.int .i64) w A0_2 l0_2.length l0_2) (hc0_2 : l0_2.length ≤ c0_2) (h : laws_FnExactStripBorder.f k a0_0 a0_1 l0_2 = some r) :
    Calls Try.prog 13 #[.agg #[.int .i64 a0_0, .int .i64 a0_1, .slice A0_2 l0_2.length c0_2]] w fun e w' => e = .returned (.bool r) ∧ Below w.heap.size w w' := by
  have hu30 := Try.underlying30
  have hu24 := Try.underlying24
  have HR0_2 := Aside0.mk hr0_2
  have HC0_2 := Aside0.mk hc0_2
  clear hr0_2 hc0_2
  have HB := Aside0.mk (Below.refl w.heap.size w)
  have H : ((laws_szChart.f a0_0 a0_1 l0_2 1048576).bind fun t583 => (if t583 < 0 then (some true) else ((laws_toChart.f k a0_0 a0_1 l0_2).bind fun bt584 => ((spec_StripBorder.f k bt584.1 bt584.2.1 bt584.2.2).bind fun bt589 => ((laws_toChart.f k a0_0 a0_1 l0_2).bind fun bt596 => ((impl_StripBorder.f bt596.1 bt596.2.1 bt596.2.2).bind fun bt602 => ((laws_eqChart.f k bt602.1 bt602.2.1 bt602.2.2.1 bt589.1 bt589.2.1 bt589.2.2.1).bind fun t609 => (if t609 = true then (laws_FnExactStripBorder.j0 k bt589.2.2.2 bt602.2.2.2 (bt602.2.2.2 != bt589.2.2.2) a0_0 a0_1 l0_2 bt589.1 bt589.2.1 bt589.2.2.1 bt596.1 bt596.2.1 bt596.2.2 bt602.1 bt602.2.1 bt602.2.2.1) else (laws_FnExactStripBorder.j0 k bt589.2.2.2 bt602.2.2.2 true a0_0 a0_1 l0_2 bt589.1 bt589.2.1 bt589.2.2.1 bt596.1 bt596.2.1 bt596.2.2 bt602.1 bt602.2.1 bt602.2.2.1))))))))) = some r := h
  clear h
  replace H := Option.bind_eq_some_iff.mp H
  obtain ⟨t583, A20, H⟩ := H
  replace H : (if t583 < 0 then (some true) else ((laws_toChart.f k a0_0 a0_1 l0_2).bind fun bt584 => ((spec_StripBorder.f k bt584.1 bt584.2.1 bt584.2.2).bind fun bt589 => ((laws_toChart.f k a0_0 a0_1 l0_2).bind fun bt596 => ((impl_StripBorder.f bt596.1 bt596.2.1 bt596.2.2).bind fun bt602 => ((laws_eqChart.f k bt602.1 bt602.2.1 bt602.2.2.1 bt589.1 bt589.2.1 bt589.2.2.1).bind fun t609 => (if t609 = true then (laws_FnExactStripBorder.j0 k bt589.2.2.2 bt602.2.2.2 (bt602.2.2.2 != bt589.2.2.2) a0_0 a0_1 l0_2 bt589.1 bt589.2.1 bt589.2.2.1 bt596.1 bt596.2.1 bt596.2.2 bt602.1 bt602.2.1 bt602.2.2.1) else (laws_FnExactStripBorder.j0 k bt589.2.2.2 bt602.2.2.2 true a0_0 a0_1 l0_2 bt589.1 bt589.2.1 bt589.2.2.1 bt596.1 bt596.2.1 bt596.2.2 bt602.1 bt602.2.1 bt602.2.2.1)))))))) = some r := H
  have A2 := Aside0.mk A20
  clear A20
  by_cases c3 : t583 < 0
  · rw [if_pos c3] at H
    have c3b0 : decide (t583 < 0) = true := decide_eq_true c3
    clear c3
    obtain rfl := Option.some.inj H
    go_enter Try.func13, Try.ntmps13
    go_wp2_with (first | ((with_reducible refine gate_dst (N := 1) rfl ?_); refine box_event ?hg (N := 1) ?hd (cs := #[.int .i64 a0_0, .int .i64 a0_1, .slice A0_2 l0_2.length c0_2]) (t := 30) ?hr ?_; (case hd => rfl); (case hg => rfl); (case hr => first | (go_simp; done) | (go_simp; rfl)); intro gb582 hg w4 hbox hb; have n0_ := Aside0.mk (below_step (by repeat (first | (with_reducible first | exact HB.out | apply below_alloc | apply pw_below_drewN | apply below_drew1) | exact HB.out)) hb); have n1_ := Aside0.mk (hbox); have n2_ := Aside0.mk ((by rw [hg]; exact (below_size (by repeat (first | (with_reducible first | exact HB.out | apply below_alloc | apply pw_below_drewN | apply below_drew1) | exact HB.out))) : w.heap.size ≤ gb582)); have n3_ := Aside0.mk ((by rw [hg]; exact (below_size (by repeat (first | (with_reducible first | exact HB.out | apply below_alloc | apply pw_below_drewN | apply below_drew1) | exact HB.out))) : w.heap.size ≤ gb582)); clear HB; have HB := n0_; have BK582 := n1_; have GW582 := n2_; have GE582 := n3_; clear n0_ n1_ n2_ n3_; clear hb hbox hg; have hcz5_0 : w4.cell? ⟨gb582, 0, none⟩ = some (.int .i64 a0_0) := (blk_cell BK582.out 0).trans rfl; have hcz5_1 : w4.cell? ⟨gb582, 1, none⟩ = some (.int .i64 a0_1) := (blk_cell BK582.out 1).trans rfl; have hcz5_2 : w4.cell? ⟨gb582, 2, none⟩ = some (.slice A0_2 l0_2.length c0_2) := (blk_cell BK582.out 2).trans rfl; have hfz5_0 := blk_frozen BK582.out 0; have hfz5_1 := blk_frozen BK582.out 1; have hfz5_2 := blk_frozen BK582.out 2) | ((with_reducible refine gate_callee (f := 19) rfl ?_); refine goesL_ (some 16) rfl rfl Try.func19 (by kernel_rfl) rfl #[.agg #[.int .i64 a0_0, .int .i64 a0_1, .slice A0_2 l0_2.length c0_2], .int .i64 1048576] rfl (by (try simp only [List.map_toArray, List.map_cons, List.map_nil]); first | done | rfl | (simp only [List.length_drop, List.length_take]; rfl)) ?_; (with_reducible refine (laws_szChart.calls a0_0 a0_1 _ _ l0_2 1048576 t583 _ ?side1 ?side2 A2.out).mono ?_); (case side1 => repeat (first | exact (Kd.C_below HR0_2.out HB.out) | (with_reducible refine Kd.C_alloc ?_ _) | (with_reducible refine Kd.C_drewN ?_ _) | (with_reducible refine Kd.C_drew ?_))); (case side2 => exact HC0_2.out); rintro e w6 ⟨rfl, hb⟩; refine ⟨_, rfl, ?_⟩; have n0_ := Aside0.mk (blk_below (g := gb582) (o := .cells #[.int .i64 a0_0, .int .i64 a0_1, .slice A0_2 l0_2.length c0_2] 30 (0, 0)) (by (with_reducible repeat (first | refine blk_drewN ?_ _ | refine blk_drew ?_ | refine blk_alloc ?_ _)); exact BK582.out) hb); have n1_ := Aside0.mk (below_step (by repeat (first | (with_reducible first | exact HB.out | apply below_alloc | apply pw_below_drewN | apply below_drew1 | refine below_set ?_ GE582.out) | exact HB.out)) hb); clear BK582; clear HB; have BK582 := n0_; have HB := n1_; clear n0_ n1_; (try clear hb); (try clear hb2); (try clear hk); (try clear hi)))
    go_ret
    exact ⟨by first | rfl | (simp [errW_none, errW_some] <;> rfl) | (simp [*, errW_none, errW_some] <;> rfl), by repeat (first | (with_reducible first | exact HB.out | apply below_alloc | apply pw_below_drewN | apply below_drew1 | refine below_set ?_ GE582.out) | exact HB.out)⟩
  · rw [if_neg c3] at H
    have c3b0 : decide (t583 < 0) = false := decide_eq_false c3
    clear c3
    replace H := Option.bind_eq_some_iff.mp H
    obtain ⟨⟨t584, t585, t586⟩, A70, H⟩ := H
    replace H : ((spec_StripBorder.f k t584 t585 t586).bind fun bt589 => ((laws_toChart.f k a0_0 a0_1 l0_2).bind fun bt596 => ((impl_StripBorder.f bt596.1 bt596.2.1 bt596.2.2).bind fun bt602 => ((laws_eqChart.f k bt602.1 bt602.2.1 bt602.2.2.1 bt589.1 bt589.2.1 bt589.2.2.1).bind fun t609 => (if t609 = true then (laws_FnExactStripBorder.j0 k bt589.2.2.2 bt602.2.2.2 (bt602.2.2.2 != bt589.2.2.2) a0_0 a0_1 l0_2 bt589.1 bt589.2.1 bt589.2.2.1 bt596.1 bt596.2.1 bt596.2.2 bt602.1 bt602.2.1 bt602.2.2.1) else (laws_FnExactStripBorder.j0 k bt589.2.2.2 bt602.2.2.2 true a0_0 a0_1 l0_2 bt589.1 bt589.2.1 bt589.2.2.1 bt596.1 bt596.2.1 bt596.2.2 bt602.1 bt602.2.1 bt602.2.2.1)))))) = some r := H
    have A7 := Aside0.mk A70
    clear A70
    replace H := Option.bind_eq_some_iff.mp H
    obtain ⟨⟨t589, t590, t591, t594⟩, A80, H⟩ := H
    replace H : ((laws_toChart.f k a0_0 a0_1 l0_2).bind fun bt596 => ((impl_StripBorder.f bt596.1 bt596.2.1 bt596.2.2).bind fun bt602 => ((laws_eqChart.f k bt602.1 bt602.2.1 bt602.2.2.1 t589 t590 t591).bind fun t609 => (if t609 = true then (laws_FnExactStripBorder.j0 k t594 bt602.2.2.2 (bt602.2.2.2 != t594) a0_0 a0_1 l0_2 t589 t590 t591 bt596.1 bt596.2.1 bt596.2.2 bt602.1 bt602.2.1 bt602.2.2.1) else (laws_FnExactStripBorder.j0 k t594 bt602.2.2.2 true a0_0 a0_1 l0_2 t589 t590 t591 bt596.1 bt596.2.1 bt596.2.2 bt602.1 bt602.2.1 bt602.2.2.1))))) = some r := H
    have A8 := Aside0.mk A80
    clear A80
    replace H := Option.bind_eq_some_iff.mp H
    obtain ⟨⟨t596, t597, t598⟩, A90, H⟩ := H
    replace H : ((impl_StripBorder.f t596 t597 t598).bind fun bt602 => ((laws_eqChart.f k bt602.1 bt602.2.1 bt602.2.2.1 t589 t590 t591).bind fun t609 => (if t609 = true then (laws_FnExactStripBorder.j0 k t594 bt602.2.2.2 (bt602.2.2.2 != t594) a0_0 a0_1 l0_2 t589 t590 t591 t596 t597 t598 bt602.1 bt602.2.1 bt602.2.2.1) else (laws_FnExactStripBorder.j0 k t594 bt602.2.2.2 true a0_0 a0_1 l0_2 t589 t590 t591 t596 t597 t598 bt602.1 bt602.2.1 bt602.2.2.1)))) = some r := H
    have A9 := Aside0.mk A90
    clear A90
    replace H := Option.bind_eq_some_iff.mp H
    obtain ⟨⟨t602, t603, t604, t607⟩, A100, H⟩ := H
    replace H : ((laws_eqChart.f k t602 t603 t604 t589 t590 t591).bind fun t609 => (if t609 = true then (laws_FnExactStripBorder.j0 k t594 t607 (t607 != t594) a0_0 a0_1 l0_2 t589 t590 t591 t596 t597 t598 t602 t603 t604) else (laws_FnExactStripBorder.j0 k t594 t607 true a0_0 a0_1 l0_2 t589 t590 t591 t596 t597 t598 t602 t603 t604))) = some r := H
    have A10 := Aside0.mk A100
    clear A100
    have HC11 := Aside0.mk H
    clear H
    go_enter Try.func13, Try.ntmps13
    go_upto_region 8 with (first | ((with_reducible refine gate_dst (N := 1) rfl ?_); refine box_event ?hg (N := 1) ?hd (cs := #[.int .i64 a0_0, .int .i64 a0_1, .slice A0_2 l0_2.length c0_2]) (t := 30) ?hr ?_; (case hd => rfl); (case hg => rfl); (case hr => first | (go_simp; done) | (go_simp; rfl)); intro gb582 hg w12 hbox hb; have n0_ := Aside0.mk (below_step (by repeat (first | (with_reducible first | exact HB.out | apply below_alloc | apply pw_below_drewN | apply below_drew1) | exact HB.out)) hb); have n1_ := Aside0.mk (hbox); have n2_ := Aside0.mk ((by rw [hg]; exact (below_size (by repeat (first | (with_reducible first | exact HB.out | apply below_alloc | apply pw_below_drewN | apply below_drew1) | exact HB.out))) : w.heap.size ≤ gb582)); have n3_ := Aside0.mk ((by rw [hg]; exact (below_size (by repeat (first | (with_reducible first | exact HB.out | apply below_alloc | apply pw_below_drewN | apply below_drew1) | exact HB.out))) : w.heap.size ≤ gb582)); clear HB; have HB := n0_; have BK582 := n1_; have GW582 := n2_; have GE582 := n3_; clear n0_ n1_ n2_ n3_; clear hb hbox hg; have hcz13_0 : w12.cell? ⟨gb582, 0, none⟩ = some (.int .i64 a0_0) := (blk_cell BK582.out 0).trans rfl; have hcz13_1 : w12.cell? ⟨gb582, 1, none⟩ = some (.int .i64 a0_1) := (blk_cell BK582.out 1).trans rfl; have hcz13_2 : w12.cell? ⟨gb582, 2, none⟩ = some (.slice A0_2 l0_2.length c0_2) := (blk_cell BK582.out 2).trans rfl; have hfz13_0 := blk_frozen BK582.out 0; have hfz13_1 := blk_frozen BK582.out 1; have hfz13_2 := blk_frozen BK582.out 2) | ((with_reducible refine gate_callee (f := 19) rfl ?_); refine goesL_ (some 16) rfl rfl Try.func19 (by kernel_rfl) rfl #[.agg #[.int .i64 a0_0, .int .i64 a0_1, .slice A0_2 l0_2.length c0_2], .int .i64 1048576] rfl (by (try simp only [List.map_toArray, List.map_cons, List.map_nil]); first | done | rfl | (simp only [List.length_drop, List.length_take]; rfl)) ?_; (with_reducible refine (laws_szChart.calls a0_0 a0_1 _ _ l0_2 1048576 t583 _ ?side1 ?side2 A2.out).mono ?_); (case side1 => repeat (first | exact (Kd.C_below HR0_2.out HB.out) | (with_reducible refine Kd.C_alloc ?_ _) | (with_reducible refine Kd.C_drewN ?_ _) | (with_reducible refine Kd.C_drew ?_))); (case side2 => exact HC0_2.out); rintro e w14 ⟨rfl, hb⟩; refine ⟨_, rfl, ?_⟩; have n0_ := Aside0.mk (blk_below (g := gb582) (o := .cells #[.int .i64 a0_0, .int .i64 a0_1, .slice A0_2 l0_2.length c0_2] 30 (0, 0)) (by (with_reducible repeat (first | refine blk_drewN ?_ _ | refine blk_drew ?_ | refine blk_alloc ?_ _)); exact BK582.out) hb); have n1_ := Aside0.mk (below_step (by repeat (first | (with_reducible first | exact HB.out | apply below_alloc | apply pw_below_drewN | apply below_drew1 | refine below_set ?_ GE582.out) | exact HB.out)) hb); clear BK582; clear HB; have BK582 := n0_; have HB := n1_; clear n0_ n1_; (try clear hb); (try clear hb2); (try clear hk); (try clear hi); have hcz15_0 : w14.cell? ⟨gb582, 0, none⟩ = some (.int .i64 a0_0) := (blk_cell BK582.out 0).trans rfl; have hcz15_1 : w14.cell? ⟨gb582, 1, none⟩ = some (.int .i64 a0_1) := (blk_cell BK582.out 1).trans rfl; have hcz15_2 : w14.cell? ⟨gb582, 2, none⟩ = some (.slice A0_2 l0_2.length c0_2) := (blk_cell BK582.out 2).trans rfl; have hfz15_0 := blk_frozen BK582.out 0; have hfz15_1 := blk_frozen BK582.out 1; have hfz15_2 := blk_frozen BK582.out 2) | ((with_reducible refine gate_callee (f := 21) rfl ?_); refine goesL_ (some 21) rfl rfl Try.func21 (by kernel_rfl) rfl #[.agg #[.int .i64 a0_0, .int .i64 a0_1, .slice A0_2 l0_2.length c0_2]] rfl (by (try simp only [List.map_toArray, List.map_cons, List.map_nil]); first | done | rfl | (simp only [List.length_drop, List.length_take]; rfl)) ?_; (with_reducible refine (laws_toChart.calls k a0_0 a0_1 _ _ l0_2 t584 t585 t586 _ ?side1 ?side2 A7.out).mono ?_); (case side1 => repeat (first | exact (Kd.C_below HR0_2.out HB.out) | (with_reducible refine Kd.C_alloc ?_ _) | (with_reducible refine Kd.C_drewN ?_ _) | (with_reducible refine Kd.C_drew ?_))); (case side2 => exact HC0_2.out); rintro e w16 ⟨v587, rfl, ho0, hb⟩; refine ⟨_, rfl, ?_⟩; have n0_ := Aside0.mk (Kd.R_lower ho0 (below_size (by repeat (first | (with_reducible first | exact HB.out | apply below_alloc | apply pw_below_drewN | apply below_drew1 | refine below_set ?_ GE582.out) | exact HB.out)))); have n1_ := Aside0.mk (blk_below (g := gb582) (o := .cells #[.int .i64 a0_0, .int .i64 a0_1, .slice A0_2 l0_2.length c0_2] 30 (0, 0)) (by (with_reducible repeat (first | refine blk_drewN ?_ _ | refine blk_drew ?_ | refine blk_alloc ?_ _)); exact BK582.out) hb); have n2_ := Aside0.mk (below_step (by repeat (first | (with_reducible first | exact HB.out | apply below_alloc | apply pw_below_drewN | apply below_drew1 | refine below_set ?_ GE582.out) | exact HB.out)) hb); clear BK582; clear HB; have HO588 := n0_; have BK582 := n1_; have HB := n2_; clear n0_ n1_ n2_; (try clear hb); (try clear hb2); (try clear hk); (try clear hi); (try clear ho0); obtain ⟨Ao17, co17, eo17⟩ := Kd.R_slice HO588.out; subst eo17) | ((with_reducible refine gate_callee (f := 43) rfl ?_); refine goesL_ (some 22) rfl rfl Try.func43 (by kernel_rfl) rfl #[.agg #[.int .i64 t584, .int .i64 t585, .slice Ao17 t586.length co17]] rfl (by (try simp only [List.map_toArray, List.map_cons, List.map_nil]); first | done | rfl | (simp only [List.length_drop, List.length_take]; rfl)) ?_; (with_reducible refine (spec_StripBorder.calls k t584 t585 _ _ t586 t589 t590 t591 t594 _ ?side1 ?side2 A8.out).mono ?_); (case side1 => repeat (first | exact (Kd.R_reads' HO588.out).2.2 | (with_reducible refine Kd.C_alloc ?_ _) | (with_reducible refine Kd.C_drewN ?_ _) | (with_reducible refine Kd.C_drew ?_))); (case side2 => exact (Kd.R_reads' HO588.out).2.1); rintro e w18 ⟨v592, rfl, ho0, hb⟩; refine ⟨_, rfl, ?_⟩; have n0_ := Aside0.mk (Kd.R_elder' (by (with_reducible repeat (first | apply Kd.R_alloc | apply Kd.R_drewN | apply Kd.R_drew)); exact HO588.out) (Kd.R_base ho0) hb); have n1_ := Aside0.mk (Kd.R_lower (Kd.R_new' ho0 (Kd.R_lt (by (with_reducible repeat (first | apply Kd.R_alloc | apply Kd.R_drewN | apply Kd.R_drew)); exact HO588.out))) (below_size (by repeat (first | (with_reducible first | exact HB.out | apply below_alloc | apply pw_below_drewN | apply below_drew1 | refine below_set ?_ GE582.out) | exact HB.out)))); have n2_ := Aside0.mk (blk_below (g := gb582) (o := .cells #[.int .i64 a0_0, .int .i64 a0_1, .slice A0_2 l0_2.length c0_2] 30 (0, 0)) (by (with_reducible repeat (first | refine blk_drewN ?_ _ | refine blk_drew ?_ | refine blk_alloc ?_ _)); exact BK582.out) hb); have n3_ := Aside0.mk (below_step (by repeat (first | (with_reducible first | exact HB.out | apply below_alloc | apply pw_below_drewN | apply below_drew1 | refine below_set ?_ GE582.out) | exact HB.out)) hb); clear HO588; clear BK582; clear HB; have HO588 := n0_; have HO593 := n1_; have BK582 := n2_; have HB := n3_; clear n0_ n1_ n2_ n3_; (try clear hb); (try clear hb2); (try clear hk); (try clear hi); (try clear ho0)) | ((with_reducible refine gate_dst (N := 4) rfl ?_); refine box_event ?hg (N := 4) ?hd (cs := #[.int .i64 0, .int .i64 0, .slice none 0 0]) (t := 24) ?hr ?_; (case hd => rfl); (case hg => rfl); (case hr => first | (go_simp; done) | (go_simp; rfl)); intro gb595 hg w19 hbox hb; have n0_ := Aside0.mk (Kd.R_below (by (with_reducible repeat (first | apply Kd.R_alloc | apply Kd.R_drewN | apply Kd.R_drew)); exact HO588.out) hb); have n1_ := Aside0.mk (Kd.R_below (by (with_reducible repeat (first | apply Kd.R_alloc | apply Kd.R_drewN | apply Kd.R_drew)); exact HO593.out) hb); have n2_ := Aside0.mk (blk_below (g := gb582) (o := .cells #[.int .i64 a0_0, .int .i64 a0_1, .slice A0_2 l0_2.length c0_2] 30 (0, 0)) (by (with_reducible repeat (first | refine blk_drewN ?_ _ | refine blk_drew ?_ | refine blk_alloc ?_ _)); exact BK582.out) hb); have n3_ := Aside0.mk (below_step (by repeat (first | (with_reducible first | exact HB.out | apply below_alloc | apply pw_below_drewN | apply below_drew1 | refine below_set ?_ GE582.out) | exact HB.out)) hb); have n4_ := Aside0.mk (hbox); have n5_ := Aside0.mk ((by rw [hg]; exact (below_size (by repeat (first | (with_reducible first | exact HB.out | apply below_alloc | apply pw_below_drewN | apply below_drew1 | refine below_set ?_ GE582.out) | exact HB.out))) : w.heap.size ≤ gb595)); have n6_ := Aside0.mk ((by rw [hg]; exact (below_size (by repeat (first | (with_reducible first | exact HB.out | apply below_alloc | apply pw_below_drewN | apply below_drew1 | refine below_set ?_ GE582.out) | exact HB.out))) : w.heap.size ≤ gb595)); have n7_ := Aside0.mk ((by rw [hg]; exact Nat.ne_of_lt (blk_lt (g := gb582) (o := .cells #[.int .i64 a0_0, .int .i64 a0_1, .slice A0_2 l0_2.length c0_2] 30 (0, 0)) (by (with_reducible repeat (first | refine blk_drewN ?_ _ | refine blk_drew ?_ | refine blk_alloc ?_ _)); exact BK582.out)) : gb582 ≠ gb595)); have n8_ := Aside0.mk ((by rw [hg]; exact Nat.ne_of_gt (blk_lt (g := gb582) (o := .cells #[.int .i64 a0_0, .int .i64 a0_1, .slice A0_2 l0_2.length c0_2] 30 (0, 0)) (by (with_reducible repeat (first | refine blk_drewN ?_ _ | refine blk_drew ?_ | refine blk_alloc ?_ _)); exact BK582.out)) : gb595 ≠ gb582)); clear HO588; clear HO593; clear BK582; clear HB; have HO588 := n0_; have HO593 := n1_; have BK582 := n2_; have HB := n3_; have BK595 := n4_; have GW595 := n5_; have GE595 := n6_; have NB582_595 := n7_; have NB595_582 := n8_; clear n0_ n1_ n2_ n3_ n4_ n5_ n6_ n7_ n8_; clear hb hbox hg; have hnb20 := NB595_582.out; have hnc20 := NB582_595.out; have hcz21_0 : w19.cell? ⟨gb595, 0, none⟩ = some (.int .i64 0) := (blk_cell BK595.out 0).trans rfl; have hcz21_1 : w19.cell? ⟨gb595, 1, none⟩ = some (.int .i64 0) := (blk_cell BK595.out 1).trans rfl; have hcz21_2 : w19.cell? ⟨gb595, 2, none⟩ = some (.slice none 0 0) := (blk_cell BK595.out 2).trans rfl; have hfz21_0 := blk_frozen BK595.out 0; have hfz21_1 := blk_frozen BK595.out 1; have hfz21_2 := blk_frozen BK595.out 2; obtain ⟨Ao22, co22, eo22⟩ := Kd.R_slice HO593.out; subst eo22; have hcz23_0 : w19.cell? ⟨gb582, 0, none⟩ = some (.int .i64 a0_0) := (blk_cell BK582.out 0).trans rfl; have hcz23_1 : w19.cell? ⟨gb582, 1, none⟩ = some (.int .i64 a0_1) := (blk_cell BK582.out 1).trans rfl; have hcz23_2 : w19.cell? ⟨gb582, 2, none⟩ = some (.slice A0_2 l0_2.length c0_2) := (blk_cell BK582.out 2).trans rfl; have hfz23_0 := blk_frozen BK582.out 0; have hfz23_1 := blk_frozen BK582.out 1; have hfz23_2 := blk_frozen BK582.out 2) | ((with_reducible refine gate_callee (f := 21) rfl ?_); refine goesL_ (some 26) rfl rfl Try.func21 (by kernel_rfl) rfl #[.agg #[.int .i64 a0_0, .int .i64 a0_1, .slice A0_2 l0_2.length c0_2]] rfl (by (try simp only [List.map_toArray, List.map_cons, List.map_nil]); first | done | rfl | (simp only [List.length_drop, List.length_take]; rfl)) ?_; (with_reducible refine (laws_toChart.calls k a0_0 a0_1 _ _ l0_2 t596 t597 t598 _ ?side1 ?side2 A9.out).mono ?_); (case side1 => exact Kd.C_below HR0_2.out (by repeat (first | (with_reducible first | exact HB.out | apply below_alloc | apply pw_below_drewN | apply below_drew1 | refine below_set ?_ GE582.out | refine below_set ?_ GE595.out) | exact HB.out))); (case side2 => exact HC0_2.out); rintro e w24 ⟨v599, rfl, ho0, hb⟩; refine ⟨_, rfl, ?_⟩; have n0_ := Aside0.mk (Kd.R_elder' (by (with_reducible repeat (first | apply Kd.R_alloc | apply Kd.R_drewN | apply Kd.R_drew)); exact (Kd.R_mono (Kd.R_far (p := ⟨gb595, 2, none⟩) (Kd.R_far (p := ⟨gb595, 1, none⟩) (Kd.R_far (p := ⟨gb595, 0, none⟩) (Kd.R_types HO588.out BK595.out (by decide)) (fun _ hk => hk.2) (.int .i64 t589)) (fun _ hk => hk.2) (.int .i64 t590)) (fun _ hk => hk.2) (.slice Ao22 t591.length co22)) (fun _ h_ => h_.1))) (Kd.R_base ho0) hb); have n1_ := Aside0.mk (Kd.R_elder' (by (with_reducible repeat (first | apply Kd.R_alloc | apply Kd.R_drewN | apply Kd.R_drew)); exact (Kd.R_mono (Kd.R_far (p := ⟨gb595, 2, none⟩) (Kd.R_far (p := ⟨gb595, 1, none⟩) (Kd.R_far (p := ⟨gb595, 0, none⟩) (Kd.R_types HO593.out BK595.out (by decide)) (fun _ hk => hk.2) (.int .i64 t589)) (fun _ hk => hk.2) (.int .i64 t590)) (fun _ hk => hk.2) (.slice Ao22 t591.length co22)) (fun _ h_ => h_.1))) (Kd.R_base ho0) hb); have n2_ := Aside0.mk (Kd.R_lower (Kd.R_new' (Kd.R_new' ho0 (Kd.R_lt (by (with_reducible repeat (first | apply Kd.R_alloc | apply Kd.R_drewN | apply Kd.R_drew)); exact (Kd.R_mono (Kd.R_far (p := ⟨gb595, 2, none⟩) (Kd.R_far (p := ⟨gb595, 1, none⟩) (Kd.R_far (p := ⟨gb595, 0, none⟩) (Kd.R_types HO588.out BK595.out (by decide)) (fun _ hk => hk.2) (.int .i64 t589)) (fun _ hk => hk.2) (.int .i64 t590)) (fun _ hk => hk.2) (.slice Ao22 t591.length co22)) (fun _ h_ => h_.1))))) (Kd.R_lt (by (with_reducible repeat (first | apply Kd.R_alloc | apply Kd.R_drewN | apply Kd.R_drew)); exact (Kd.R_mono (Kd.R_far (p := ⟨gb595, 2, none⟩) (Kd.R_far (p := ⟨gb595, 1, none⟩) (Kd.R_far (p := ⟨gb595, 0, none⟩) (Kd.R_types HO593.out BK595.out (by decide)) (fun _ hk => hk.2) (.int .i64 t589)) (fun _ hk => hk.2) (.int .i64 t590)) (fun _ hk => hk.2) (.slice Ao22 t591.length co22)) (fun _ h_ => h_.1))))) (below_size (by repeat (first | (with_reducible first | exact HB.out | apply below_alloc | apply pw_below_drewN | apply below_drew1 | refine below_set ?_ GE582.out | refine below_set ?_ GE595.out) | exact HB.out)))); have n3_ := Aside0.mk (blk_below (g := gb582) (o := .cells #[.int .i64 a0_0, .int .i64 a0_1, .slice A0_2 l0_2.length c0_2] 30 (0, 0)) (by (with_reducible repeat (first | refine blk_drewN ?_ _ | refine blk_drew ?_ | refine blk_alloc ?_ _)); refine blk_far ?_ NB582_595.out _; (with_reducible repeat (first | refine blk_drewN ?_ _ | refine blk_drew ?_ | refine blk_alloc ?_ _)); refine blk_far ?_ NB582_595.out _; (with_reducible repeat (first | refine blk_drewN ?_ _ | refine blk_drew ?_ | refine blk_alloc ?_ _)); refine blk_far ?_ NB582_595.out _; (with_reducible repeat (first | refine blk_drewN ?_ _ | refine blk_drew ?_ | refine blk_alloc ?_ _)); exact BK582.out) hb); have n4_ := Aside0.mk (blk_below (g := gb595) (o := .cells #[.int .i64 t589, .int .i64 t590, .slice Ao22 t591.length co22] 24 (0, 0)) (by (with_reducible repeat (first | refine blk_drewN ?_ _ | refine blk_drew ?_ | refine blk_alloc ?_ _)); refine blk_put (cs := #[.int .i64 t589, .int .i64 t590, .slice none 0 0]) ?_ 2 _ rfl; (with_reducible repeat (first | refine blk_drewN ?_ _ | refine blk_drew ?_ | refine blk_alloc ?_ _)); refine blk_put (cs := #[.int .i64 t589, .int .i64 0, .slice none 0 0]) ?_ 1 _ rfl; (with_reducible repeat (first | refine blk_drewN ?_ _ | refine blk_drew ?_ | refine blk_alloc ?_ _)); refine blk_put (cs := #[.int .i64 0, .int .i64 0, .slice none 0 0]) ?_ 0 _ rfl; (with_reducible repeat (first | refine blk_drewN ?_ _ | refine blk_drew ?_ | refine blk_alloc ?_ _)); exact BK595.out) hb); have n5_ := Aside0.mk (below_step (by repeat (first | (with_reducible first | exact HB.out | apply below_alloc | apply pw_below_drewN | apply below_drew1 | refine below_set ?_ GE582.out | refine below_set ?_ GE595.out) | exact HB.out)) hb); clear HO588; clear HO593; clear BK582; clear BK595; clear HB; have HO588 := n0_; have HO593 := n1_; have HO600 := n2_; have BK582 := n3_; have BK595 := n4_; have HB := n5_; clear n0_ n1_ n2_ n3_ n4_ n5_; (try clear hb); (try clear hb2); (try clear hk); (try clear hi); (try clear ho0)) | ((with_reducible refine gate_dst (N := 6) rfl ?_); refine box_event ?hg (N := 6) ?hd (cs := #[.int .i64 0, .int .i64 0, .slice none 0 0]) (t := 24) ?hr ?_; (case hd => rfl); (case hg => rfl); (case hr => first | (go_simp; done) | (go_simp; rfl)); intro gb601 hg w25 hbox hb; have n0_ := Aside0.mk (Kd.R_below (by (with_reducible repeat (first | apply Kd.R_alloc | apply Kd.R_drewN | apply Kd.R_drew)); exact HO588.out) hb); have n1_ := Aside0.mk (Kd.R_below (by (with_reducible repeat (first | apply Kd.R_alloc | apply Kd.R_drewN | apply Kd.R_drew)); exact HO593.out) hb); have n2_ := Aside0.mk (Kd.R_below (by (with_reducible repeat (first | apply Kd.R_alloc | apply Kd.R_drewN | apply Kd.R_drew)); exact HO600.out) hb); have n3_ := Aside0.mk (blk_below (g := gb582) (o := .cells #[.int .i64 a0_0, .int .i64 a0_1, .slice A0_2 l0_2.length c0_2] 30 (0, 0)) (by (with_reducible repeat (first | refine blk_drewN ?_ _ | refine blk_drew ?_ | refine blk_alloc ?_ _)); exact BK582.out) hb); have n4_ := Aside0.mk (blk_below (g := gb595) (o := .cells #[.int .i64 t589, .int .i64 t590, .slice Ao22 t591.length co22] 24 (0, 0)) (by (with_reducible repeat (first | refine blk_drewN ?_ _ | refine blk_drew ?_ | refine blk_alloc ?_ _)); exact BK595.out) hb); have n5_ := Aside0.mk (below_step (by repeat (first | (with_reducible first | exact HB.out | apply below_alloc | apply pw_below_drewN | apply below_drew1 | refine below_set ?_ GE582.out | refine below_set ?_ GE595.out) | exact HB.out)) hb); have n6_ := Aside0.mk (hbox); have n7_ := Aside0.mk ((by rw [hg]; exact (below_size (by repeat (first | (with_reducible first | exact HB.out | apply below_alloc | apply pw_below_drewN | apply below_drew1 | refine below_set ?_ GE582.out | refine below_set ?_ GE595.out) | exact HB.out))) : w.heap.size ≤ gb601)); have n8_ := Aside0.mk ((by rw [hg]; exact (below_size (by repeat (first | (with_reducible first | exact HB.out | apply below_alloc | apply pw_below_drewN | apply below_drew1 | refine below_set ?_ GE582.out | refine below_set ?_ GE595.out) | exact HB.out))) : w.heap.size ≤ gb601)); have n9_ := Aside0.mk ((by rw [hg]; exact Nat.ne_of_lt (blk_lt (g := gb582) (o := .cells #[.int .i64 a0_0, .int .i64 a0_1, .slice A0_2 l0_2.length c0_2] 30 (0, 0)) (by (with_reducible repeat (first | refine blk_drewN ?_ _ | refine blk_drew ?_ | refine blk_alloc ?_ _)); exact BK582.out)) : gb582 ≠ gb601)); have n10_ := Aside0.mk ((by rw [hg]; exact Nat.ne_of_gt (blk_lt (g := gb582) (o := .cells #[.int .i64 a0_0, .int .i64 a0_1, .slice A0_2 l0_2.length c0_2] 30 (0, 0)) (by (with_reducible repeat (first | refine blk_drewN ?_ _ | refine blk_drew ?_ | refine blk_alloc ?_ _)); exact BK582.out)) : gb601 ≠ gb582)); have n11_ := Aside0.mk ((by rw [hg]; exact Nat.ne_of_lt (blk_lt (g := gb595) (o := .cells #[.int .i64 t589, .int .i64 t590, .slice Ao22 t591.length co22] 24 (0, 0)) (by (with_reducible repeat (first | refine blk_drewN ?_ _ | refine blk_drew ?_ | refine blk_alloc ?_ _)); exact BK595.out)) : gb595 ≠ gb601)); have n12_ := Aside0.mk ((by rw [hg]; exact Nat.ne_of_gt (blk_lt (g := gb595) (o := .cells #[.int .i64 t589, .int .i64 t590, .slice Ao22 t591.length co22] 24 (0, 0)) (by (with_reducible repeat (first | refine blk_drewN ?_ _ | refine blk_drew ?_ | refine blk_alloc ?_ _)); exact BK595.out)) : gb601 ≠ gb595)); clear HO588; clear HO593; clear HO600; clear BK582; clear BK595; clear HB; have HO588 := n0_; have HO593 := n1_; have HO600 := n2_; have BK582 := n3_; have BK595 := n4_; have HB := n5_; have BK601 := n6_; have GW601 := n7_; have GE601 := n8_; have NB582_601 := n9_; have NB601_582 := n10_; have NB595_601 := n11_; have NB601_595 := n12_; clear n0_ n1_ n2_ n3_ n4_ n5_ n6_ n7_ n8_ n9_ n10_ n11_ n12_; clear hb hbox hg; have hnb26 := NB601_582.out; have hnc26 := NB582_601.out; have hnb27 := NB601_595.out; have hnc27 := NB595_601.out; have hcz28_0 : w25.cell? ⟨gb601, 0, none⟩ = some (.int .i64 0) := (blk_cell BK601.out 0).trans rfl; have hcz28_1 : w25.cell? ⟨gb601, 1, none⟩ = some (.int .i64 0) := (blk_cell BK601.out 1).trans rfl; have hcz28_2 : w25.cell? ⟨gb601, 2, none⟩ = some (.slice none 0 0) := (blk_cell BK601.out 2).trans rfl; have hfz28_0 := blk_frozen BK601.out 0; have hfz28_1 := blk_frozen BK601.out 1; have hfz28_2 := blk_frozen BK601.out 2; obtain ⟨Ao29, co29, eo29⟩ := Kd.R_slice HO600.out; subst eo29) | ((with_reducible refine gate_callee (f := 44) rfl ?_); refine goesL_ (some 29) rfl rfl Try.func44 (by kernel_rfl) rfl #[.agg #[.int .i64 t596, .int .i64 t597, .slice Ao29 t598.length co29]] rfl (by (try simp only [List.map_toArray, List.map_cons, List.map_nil]); first | done | rfl | (simp only [List.length_drop, List.length_take]; rfl)) ?_; (with_reducible refine (impl_StripBorder.calls t596 t597 _ _ t598 t602 t603 t604 t607 _ ?side1 ?side2 A10.out).mono ?_); (case side1 => refine (Kd.R_reads' (e := 3) (base := w.heap.size) (ok := fun k_ => ((True ∧ some k_ ≠ (.slice Ao17 t586.length co17 : Value).ownBlock) ∧ some k_ ≠ (.slice Ao22 t591.length co22 : Value).ownBlock)) (n := t598.length) (c := co29) ?_).2.2; exact (by (with_reducible repeat (first | apply Kd.R_alloc | apply Kd.R_drewN | apply Kd.R_drew)); exact (Kd.R_mono (Kd.R_far (p := ⟨gb601, 2, none⟩) (Kd.R_far (p := ⟨gb601, 1, none⟩) (Kd.R_far (p := ⟨gb601, 0, none⟩) (Kd.R_types HO600.out BK601.out (by decide)) (fun _ hk => hk.2) (.int .i64 t596)) (fun _ hk => hk.2) (.int .i64 t597)) (fun _ hk => hk.2) (.slice Ao29 t598.length co29)) (fun _ h_ => h_.1)))); (case side2 => exact (Kd.R_reads' HO600.out).2.1); rintro e w30 ⟨v605, rfl, ho0, hb⟩; refine ⟨_, rfl, ?_⟩; have n0_ := Aside0.mk (Kd.R_elder' (by (with_reducible repeat (first | apply Kd.R_alloc | apply Kd.R_drewN | apply Kd.R_drew)); exact (Kd.R_mono (Kd.R_far (p := ⟨gb601, 2, none⟩) (Kd.R_far (p := ⟨gb601, 1, none⟩) (Kd.R_far (p := ⟨gb601, 0, none⟩) (Kd.R_types HO588.out BK601.out (by decide)) (fun _ hk => hk.2) (.int .i64 t596)) (fun _ hk => hk.2) (.int .i64 t597)) (fun _ hk => hk.2) (.slice Ao29 t598.length co29)) (fun _ h_ => h_.1))) (Kd.R_base ho0) hb); have n1_ := Aside0.mk (Kd.R_elder' (by (with_reducible repeat (first | apply Kd.R_alloc | apply Kd.R_drewN | apply Kd.R_drew)); exact (Kd.R_mono (Kd.R_far (p := ⟨gb601, 2, none⟩) (Kd.R_far (p := ⟨gb601, 1, none⟩) (Kd.R_far (p := ⟨gb601, 0, none⟩) (Kd.R_types HO593.out BK601.out (by decide)) (fun _ hk => hk.2) (.int .i64 t596)) (fun _ hk => hk.2) (.int .i64 t597)) (fun _ hk => hk.2) (.slice Ao29 t598.length co29)) (fun _ h_ => h_.1))) (Kd.R_base ho0) hb); have n2_ := Aside0.mk (Kd.R_elder' (by (with_reducible repeat (first | apply Kd.R_alloc | apply Kd.R_drewN | apply Kd.R_drew)); exact (Kd.R_mono (Kd.R_far (p := ⟨gb601, 2, none⟩) (Kd.R_far (p := ⟨gb601, 1, none⟩) (Kd.R_far (p := ⟨gb601, 0, none⟩) (Kd.R_types HO600.out BK601.out (by decide)) (fun _ hk => hk.2) (.int .i64 t596)) (fun _ hk => hk.2) (.int .i64 t597)) (fun _ hk => hk.2) (.slice Ao29 t598.length co29)) (fun _ h_ => h_.1))) (Kd.R_base ho0) hb); have n3_ := Aside0.mk (Kd.R_lower (Kd.R_new' (Kd.R_new' (Kd.R_new' ho0 (Kd.R_lt (by (with_reducible repeat (first | apply Kd.R_alloc | apply Kd.R_drewN | apply Kd.R_drew)); exact (Kd.R_mono (Kd.R_far (p := ⟨gb601, 2, none⟩) (Kd.R_far (p := ⟨gb601, 1, none⟩) (Kd.R_far (p := ⟨gb601, 0, none⟩) (Kd.R_types HO588.out BK601.out (by decide)) (fun _ hk => hk.2) (.int .i64 t596)) (fun _ hk => hk.2) (.int .i64 t597)) (fun _ hk => hk.2) (.slice Ao29 t598.length co29)) (fun _ h_ => h_.1))))) (Kd.R_lt (by (with_reducible repeat (first | apply Kd.R_alloc | apply Kd.R_drewN | apply Kd.R_drew)); exact (Kd.R_mono (Kd.R_far (p := ⟨gb601, 2, none⟩) (Kd.R_far (p := ⟨gb601, 1, none⟩) (Kd.R_far (p := ⟨gb601, 0, none⟩) (Kd.R_types HO593.out BK601.out (by decide)) (fun _ hk => hk.2) (.int .i64 t596)) (fun _ hk => hk.2) (.int .i64 t597)) (fun _ hk => hk.2) (.slice Ao29 t598.length co29)) (fun _ h_ => h_.1))))) (Kd.R_lt (by (with_reducible repeat (first | apply Kd.R_alloc | apply Kd.R_drewN | apply Kd.R_drew)); exact (Kd.R_mono (Kd.R_far (p := ⟨gb601, 2, none⟩) (Kd.R_far (p := ⟨gb601, 1, none⟩) (Kd.R_far (p := ⟨gb601, 0, none⟩) (Kd.R_types HO600.out BK601.out (by decide)) (fun _ hk => hk.2) (.int .i64 t596)) (fun _ hk => hk.2) (.int .i64 t597)) (fun _ hk => hk.2) (.slice Ao29 t598.length co29)) (fun _ h_ => h_.1))))) (below_size (by repeat (first | (with_reducible first | exact HB.out | apply below_alloc | apply pw_below_drewN | apply below_drew1 | refine below_set ?_ GE582.out | refine below_set ?_ GE595.out | refine below_set ?_ GE601.out) | exact HB.out)))); have n4_ := Aside0.mk (blk_below (g := gb582) (o := .cells #[.int .i64 a0_0, .int .i64 a0_1, .slice A0_2 l0_2.length c0_2] 30 (0, 0)) (by (with_reducible repeat (first | refine blk_drewN ?_ _ | refine blk_drew ?_ | refine blk_alloc ?_ _)); refine blk_far ?_ NB582_601.out _; (with_reducible repeat (first | refine blk_drewN ?_ _ | refine blk_drew ?_ | refine blk_alloc ?_ _)); refine blk_far ?_ NB582_601.out _; (with_reducible repeat (first | refine blk_drewN ?_ _ | refine blk_drew ?_ | refine blk_alloc ?_ _)); refine blk_far ?_ NB582_601.out _; (with_reducible repeat (first | refine blk_drewN ?_ _ | refine blk_drew ?_ | refine blk_alloc ?_ _)); exact BK582.out) hb); have n5_ := Aside0.mk (blk_below (g := gb595) (o := .cells #[.int .i64 t589, .int .i64 t590, .slice Ao22 t591.length co22] 24 (0, 0)) (by (with_reducible repeat (first | refine blk_drewN ?_ _ | refine blk_drew ?_ | refine blk_alloc ?_ _)); refine blk_far ?_ NB595_601.out _; (with_reducible repeat (first | refine blk_drewN ?_ _ | refine blk_drew ?_ | refine blk_alloc ?_ _)); refine blk_far ?_ NB595_601.out _; (with_reducible repeat (first | refine blk_drewN ?_ _ | refine blk_drew ?_ | refine blk_alloc ?_ _)); refine blk_far ?_ NB595_601.out _; (with_reducible repeat (first | refine blk_drewN ?_ _ | refine blk_drew ?_ | refine blk_alloc ?_ _)); exact BK595.out) hb); have n6_ := Aside0.mk (blk_below (g := gb601) (o := .cells #[.int .i64 t596, .int .i64 t597, .slice Ao29 t598.length co29] 24 (0, 0)) (by (with_reducible repeat (first | refine blk_drewN ?_ _ | refine blk_drew ?_ | refine blk_alloc ?_ _)); refine blk_put (cs := #[.int .i64 t596, .int .i64 t597, .slice none 0 0]) ?_ 2 _ rfl; (with_reducible repeat (first | refine blk_drewN ?_ _ | refine blk_drew ?_ | refine blk_alloc ?_ _)); refine blk_put (cs := #[.int .i64 t596, .int .i64 0, .slice none 0 0]) ?_ 1 _ rfl; (with_reducible repeat (first | refine blk_drewN ?_ _ | refine blk_drew ?_ | refine blk_alloc ?_ _)); refine blk_put (cs := #[.int .i64 0, .int .i64 0, .slice none 0 0]) ?_ 0 _ rfl; (with_reducible repeat (first | refine blk_drewN ?_ _ | refine blk_drew ?_ | refine blk_alloc ?_ _)); exact BK601.out) hb); have n7_ := Aside0.mk (below_step (by repeat (first | (with_reducible first | exact HB.out | apply below_alloc | apply pw_below_drewN | apply below_drew1 | refine below_set ?_ GE582.out | refine below_set ?_ GE595.out | refine below_set ?_ GE601.out) | exact HB.out)) hb); clear HO588; clear HO593; clear HO600; clear BK582; clear BK595; clear BK601; clear HB; have HO588 := n0_; have HO593 := n1_; have HO600 := n2_; have HO606 := n3_; have BK582 := n4_; have BK595 := n5_; have BK601 := n6_; have HB := n7_; clear n0_ n1_ n2_ n3_ n4_ n5_ n6_ n7_; (try clear hb); (try clear hb2); (try clear hk); (try clear hi); (try clear ho0)) | ((with_reducible refine gate_dst (N := 7) rfl ?_); refine box_event ?hg (N := 7) ?hd (cs := #[.int .i64 0, .int .i64 0, .slice none 0 0]) (t := 24) ?hr ?_; (case hd => rfl); (case hg => rfl); (case hr => first | (go_simp; done) | (go_simp; rfl)); intro gb608 hg w31 hbox hb; have n0_ := Aside0.mk (Kd.R_below (by (with_reducible repeat (first | apply Kd.R_alloc | apply Kd.R_drewN | apply Kd.R_drew)); exact HO588.out) hb); have n1_ := Aside0.mk (Kd.R_below (by (with_reducible repeat (first | apply Kd.R_alloc | apply Kd.R_drewN | apply Kd.R_drew)); exact HO593.out) hb); have n2_ := Aside0.mk (Kd.R_below (by (with_reducible repeat (first | apply Kd.R_alloc | apply Kd.R_drewN | apply Kd.R_drew)); exact HO600.out) hb); have n3_ := Aside0.mk (Kd.R_below (by (with_reducible repeat (first | apply Kd.R_alloc | apply Kd.R_drewN | apply Kd.R_drew)); exact HO606.out) hb); have n4_ := Aside0.mk (blk_below (g := gb582) (o := .cells #[.int .i64 a0_0, .int .i64 a0_1, .slice A0_2 l0_2.length c0_2] 30 (0, 0)) (by (with_reducible repeat (first | refine blk_drewN ?_ _ | refine blk_drew ?_ | refine blk_alloc ?_ _)); exact BK582.out) hb); have n5_ := Aside0.mk (blk_below (g := gb595) (o := .cells #[.int .i64 t589, .int .i64 t590, .slice Ao22 t591.length co22] 24 (0, 0)) (by (with_reducible repeat (first | refine blk_drewN ?_ _ | refine blk_drew ?_ | refine blk_alloc ?_ _)); exact BK595.out) hb); have n6_ := Aside0.mk (blk_below (g := gb601) (o := .cells #[.int .i64 t596, .int .i64 t597, .slice Ao29 t598.length co29] 24 (0, 0)) (by (with_reducible repeat (first | refine blk_drewN ?_ _ | refine blk_drew ?_ | refine blk_alloc ?_ _)); exact BK601.out) hb); have n7_ := Aside0.mk (below_step (by repeat (first | (with_reducible first | exact HB.out | apply below_alloc | apply pw_below_drewN | apply below_drew1 | refine below_set ?_ GE582.out | refine below_set ?_ GE595.out | refine below_set ?_ GE601.out) | exact HB.out)) hb); have n8_ := Aside0.mk (hbox); have n9_ := Aside0.mk ((by rw [hg]; exact (below_size (by repeat (first | (with_reducible first | exact HB.out | apply below_alloc | apply pw_below_drewN | apply below_drew1 | refine below_set ?_ GE582.out | refine below_set ?_ GE595.out | refine below_set ?_ GE601.out) | exact HB.out))) : w.heap.size ≤ gb608)); have n10_ := Aside0.mk ((by rw [hg]; exact (below_size (by repeat (first | (with_reducible first | exact HB.out | apply below_alloc | apply pw_below_drewN | apply below_drew1 | refine below_set ?_ GE582.out | refine below_set ?_ GE595.out | refine below_set ?_ GE601.out) | exact HB.out))) : w.heap.size ≤ gb608)); have n11_ := Aside0.mk ((by rw [hg]; exact Nat.ne_of_lt (blk_lt (g := gb582) (o := .cells #[.int .i64 a0_0, .int .i64 a0_1, .slice A0_2 l0_2.length c0_2] 30 (0, 0)) (by (with_reducible repeat (first | refine blk_drewN ?_ _ | refine blk_drew ?_ | refine blk_alloc ?_ _)); exact BK582.out)) : gb582 ≠ gb608)); have n12_ := Aside0.mk ((by rw [hg]; exact Nat.ne_of_gt (blk_lt (g := gb582) (o := .cells #[.int .i64 a0_0, .int .i64 a0_1, .slice A0_2 l0_2.length c0_2] 30 (0, 0)) (by (with_reducible repeat (first | refine blk_drewN ?_ _ | refine blk_drew ?_ | refine blk_alloc ?_ _)); exact BK582.out)) : gb608 ≠ gb582)); have n13_ := Aside0.mk ((by rw [hg]; exact Nat.ne_of_lt (blk_lt (g := gb595) (o := .cells #[.int .i64 t589, .int .i64 t590, .slice Ao22 t591.length co22] 24 (0, 0)) (by (with_reducible repeat (first | refine blk_drewN ?_ _ | refine blk_drew ?_ | refine blk_alloc ?_ _)); exact BK595.out)) : gb595 ≠ gb608)); have n14_ := Aside0.mk ((by rw [hg]; exact Nat.ne_of_gt (blk_lt (g := gb595) (o := .cells #[.int .i64 t589, .int .i64 t590, .slice Ao22 t591.length co22] 24 (0, 0)) (by (with_reducible repeat (first | refine blk_drewN ?_ _ | refine blk_drew ?_ | refine blk_alloc ?_ _)); exact BK595.out)) : gb608 ≠ gb595)); have n15_ := Aside0.mk ((by rw [hg]; exact Nat.ne_of_lt (blk_lt (g := gb601) (o := .cells #[.int .i64 t596, .int .i64 t597, .slice Ao29 t598.length co29] 24 (0, 0)) (by (with_reducible repeat (first | refine blk_drewN ?_ _ | refine blk_drew ?_ | refine blk_alloc ?_ _)); exact BK601.out)) : gb601 ≠ gb608)); have n16_ := Aside0.mk ((by rw [hg]; exact Nat.ne_of_gt (blk_lt (g := gb601) (o := .cells #[.int .i64 t596, .int .i64 t597, .slice Ao29 t598.length co29] 24 (0, 0)) (by (with_reducible repeat (first | refine blk_drewN ?_ _ | refine blk_drew ?_ | refine blk_alloc ?_ _)); exact BK601.out)) : gb608 ≠ gb601)); clear HO588; clear HO593; clear HO600; clear HO606; clear BK582; clear BK595; clear BK601; clear HB; have HO588 := n0_; have HO593 := n1_; have HO600 := n2_; have HO606 := n3_; have BK582 := n4_; have BK595 := n5_; have BK601 := n6_; have HB := n7_; have BK608 := n8_; have GW608 := n9_; have GE608 := n10_; have NB582_608 := n11_; have NB608_582 := n12_; have NB595_608 := n13_; have NB608_595 := n14_; have NB601_608 := n15_; have NB608_601 := n16_; clear n0_ n1_ n2_ n3_ n4_ n5_ n6_ n7_ n8_ n9_ n10_ n11_ n12_ n13_ n14_ n15_ n16_; clear hb hbox hg; have hnb32 := NB608_582.out; have hnc32 := NB582_608.out; have hnb33 := NB608_595.out; have hnc33 := NB595_608.out; have hnb34 := NB608_601.out; have hnc34 := NB601_608.out; have hcz35_0 : w31.cell? ⟨gb608, 0, none⟩ = some (.int .i64 0) := (blk_cell BK608.out 0).trans rfl; have hcz35_1 : w31.cell? ⟨gb608, 1, none⟩ = some (.int .i64 0) := (blk_cell BK608.out 1).trans rfl; have hcz35_2 : w31.cell? ⟨gb608, 2, none⟩ = some (.slice none 0 0) := (blk_cell BK608.out 2).trans rfl; have hfz35_0 := blk_frozen BK608.out 0; have hfz35_1 := blk_frozen BK608.out 1; have hfz35_2 := blk_frozen BK608.out 2; obtain ⟨Ao36, co36, eo36⟩ := Kd.R_slice HO606.out; subst eo36))
    (try simp only [Act.put, List.setIfInBounds_toArray, List.set_cons_zero, List.set_cons_succ])
    go_cut [40] (fun v40 wc => ∃ (kq : Nat) (x40_10 : Bool), v40 = .bool x40_10 ∧ Aside0 (laws_FnExactStripBorder.j0 kq t594 t607 x40_10 a0_0 a0_1 l0_2 t589 t590 t591 t596 t597 t598 t602 t603 t604 = some r) ∧ Aside0 (kq ≤ k) ∧ Aside0 (Kd.R (Kd.int .i64) 3 wc w.heap.size (fun k_ => some k_ ≠ ((.slice Ao29 t598.length co29) : Value).ownBlock ∧ some k_ ≠ ((.slice Ao36 t604.length co36) : Value).ownBlock) (.slice Ao22 t591.length co22) t591) ∧ Aside0 (Kd.R (Kd.int .i64) 3 wc w.heap.size (fun k_ => some k_ ≠ ((.slice Ao22 t591.length co22) : Value).ownBlock ∧ some k_ ≠ ((.slice Ao36 t604.length co36) : Value).ownBlock) (.slice Ao29 t598.length co29) t598) ∧ Aside0 (Kd.R (Kd.int .i64) 3 wc w.heap.size (fun k_ => some k_ ≠ ((.slice Ao22 t591.length co22) : Value).ownBlock ∧ some k_ ≠ ((.slice Ao29 t598.length co29) : Value).ownBlock) (.slice Ao36 t604.length co36) t604) ∧ Aside0 (wc.heap[gb582]? = some (.cells #[.int .i64 a0_0, .int .i64 a0_1, (.slice A0_2 l0_2.length c0_2)] 30 (0, 0))) ∧ Aside0 (wc.heap[gb595]? = some (.cells #[.int .i64 t589, .int .i64 t590, (.slice Ao22 t591.length co22)] 24 (0, 0))) ∧ Aside0 (wc.heap[gb601]? = some (.cells #[.int .i64 t596, .int .i64 t597, (.slice Ao29 t598.length co29)] 24 (0, 0))) ∧ Aside0 (wc.heap[gb608]? = some (.cells #[.int .i64 t602, .int .i64 t603, (.slice Ao36 t604.length co36)] 24 (0, 0))) ∧ Aside0 (Below w.heap.size w wc))
    case first =>
      have H := HC11.out
      clear HC11
      replace H := Option.bind_eq_some_iff.mp H
      obtain ⟨t609, A370, H⟩ := H
      replace H : (if t609 = true then (laws_FnExactStripBorder.j0 k t594 t607 (t607 != t594) a0_0 a0_1 l0_2 t589 t590 t591 t596 t597 t598 t602 t603 t604) else (laws_FnExactStripBorder.j0 k t594 t607 true a0_0 a0_1 l0_2 t589 t590 t591 t596 t597 t598 t602 t603 t604)) = some r := H
      have A37 := Aside0.mk A370
      clear A370
      by_cases c38 : t609 = true
      · subst c38
        have H1 : (laws_FnExactStripBorder.j0 k t594 t607 (t607 != t594) a0_0 a0_1 l0_2 t589 t590 t591 t596 t597 t598 t602 t603 t604) = some r := by rw [if_pos rfl] at H; exact H
        clear H
        have H := H1
        clear H1
        have H' := Aside0.mk H
        clear H
        have hnb39 := NB608_582.out
        have hnc39 := NB582_608.out
        have hnb40 := NB608_595.out
        have hnc40 := NB595_608.out
        have hnb41 := NB608_601.out
        have hnc41 := NB601_608.out
        have hcz42_0 : w31.cell? ⟨gb608, 0, none⟩ = some (.int .i64 0) := (blk_cell BK608.out 0).trans rfl
        have hcz42_1 : w31.cell? ⟨gb608, 1, none⟩ = some (.int .i64 0) := (blk_cell BK608.out 1).trans rfl
        have hcz42_2 : w31.cell? ⟨gb608, 2, none⟩ = some (.slice none 0 0) := (blk_cell BK608.out 2).trans rfl
        have hfz42_0 := blk_frozen BK608.out 0
        have hfz42_1 := blk_frozen BK608.out 1
        have hfz42_2 := blk_frozen BK608.out 2
        have hnb43 := NB595_582.out
        have hnc43 := NB582_595.out
        have hnb44 := NB595_601.out
        have hnc44 := NB601_595.out
        have hcz45_0 : w31.cell? ⟨gb595, 0, none⟩ = some (.int .i64 t589) := (blk_cell BK595.out 0).trans rfl
        have hcz45_1 : w31.cell? ⟨gb595, 1, none⟩ = some (.int .i64 t590) := (blk_cell BK595.out 1).trans rfl
        have hcz45_2 : w31.cell? ⟨gb595, 2, none⟩ = some (.slice Ao22 t591.length co22) := (blk_cell BK595.out 2).trans rfl
        have hfz45_0 := blk_frozen BK595.out 0
        have hfz45_1 := blk_frozen BK595.out 1
        have hfz45_2 := blk_frozen BK595.out 2
        go_wp2_with (first | ((with_reducible refine gate_callee (f := 16) rfl ?_); refine goesL_ (some 34) rfl rfl Try.func16 (by kernel_rfl) rfl #[.agg #[.int .i64 t602, .int .i64 t603, .slice Ao36 t604.length co36], .agg #[.int .i64 t589, .int .i64 t590, .slice Ao22 t591.length co22]] rfl (by (try simp only [List.map_toArray, List.map_cons, List.map_nil]); first | done | rfl | (simp only [List.length_drop, List.length_take]; rfl)) ?_; (with_reducible refine (laws_eqChart.calls k t602 t603 _ _ t604 t589 t590 _ _ t591 true _ ?side1 ?side2 ?side3 ?side4 A37.out).mono ?_); (case side1 => refine (Kd.R_reads' (e := 3) (base := w.heap.size) (ok := fun k_ => (((True ∧ some k_ ≠ (.slice Ao17 t586.length co17 : Value).ownBlock) ∧ some k_ ≠ (.slice Ao22 t591.length co22 : Value).ownBlock) ∧ some k_ ≠ (.slice Ao29 t598.length co29 : Value).ownBlock)) (n := t604.length) (c := co36) ?_).2.2; exact (by (with_reducible repeat (first | apply Kd.R_alloc | apply Kd.R_drewN | apply Kd.R_drew)); exact (Kd.R_mono (Kd.R_far (p := ⟨gb608, 2, none⟩) (Kd.R_far (p := ⟨gb608, 1, none⟩) (Kd.R_far (p := ⟨gb608, 0, none⟩) (Kd.R_types HO606.out BK608.out (by decide)) (fun _ hk => hk.2) (.int .i64 t602)) (fun _ hk => hk.2) (.int .i64 t603)) (fun _ hk => hk.2) (.slice Ao36 t604.length co36)) (fun _ h_ => h_.1)))); (case side2 => exact (Kd.R_reads' HO606.out).2.1); (case side3 => refine (Kd.R_reads' (e := 3) (base := w.heap.size) (ok := fun k_ => (((True ∧ some k_ ≠ (.slice Ao17 t586.length co17 : Value).ownBlock) ∧ some k_ ≠ (.slice Ao29 t598.length co29 : Value).ownBlock) ∧ some k_ ≠ (.slice Ao36 t604.length co36 : Value).ownBlock)) (n := t591.length) (c := co22) ?_).2.2; exact (by (with_reducible repeat (first | apply Kd.R_alloc | apply Kd.R_drewN | apply Kd.R_drew)); exact (Kd.R_mono (Kd.R_far (p := ⟨gb608, 2, none⟩) (Kd.R_far (p := ⟨gb608, 1, none⟩) (Kd.R_far (p := ⟨gb608, 0, none⟩) (Kd.R_types HO593.out BK608.out (by decide)) (fun _ hk => hk.2) (.int .i64 t602)) (fun _ hk => hk.2) (.int .i64 t603)) (fun _ hk => hk.2) (.slice Ao36 t604.length co36)) (fun _ h_ => h_.1)))); (case side4 => exact (Kd.R_reads' HO593.out).2.1); rintro e w46 ⟨rfl, hb⟩; refine ⟨_, rfl, ?_⟩; have n0_ := Aside0.mk (Kd.R_below (by (with_reducible repeat (first | apply Kd.R_alloc | apply Kd.R_drewN | apply Kd.R_drew)); exact (Kd.R_mono (Kd.R_far (p := ⟨gb608, 2, none⟩) (Kd.R_far (p := ⟨gb608, 1, none⟩) (Kd.R_far (p := ⟨gb608, 0, none⟩) (Kd.R_types HO588.out BK608.out (by decide)) (fun _ hk => hk.2) (.int .i64 t602)) (fun _ hk => hk.2) (.int .i64 t603)) (fun _ hk => hk.2) (.slice Ao36 t604.length co36)) (fun _ h_ => h_.1))) hb); have n1_ := Aside0.mk (Kd.R_below (by (with_reducible repeat (first | apply Kd.R_alloc | apply Kd.R_drewN | apply Kd.R_drew)); exact (Kd.R_mono (Kd.R_far (p := ⟨gb608, 2, none⟩) (Kd.R_far (p := ⟨gb608, 1, none⟩) (Kd.R_far (p := ⟨gb608, 0, none⟩) (Kd.R_types HO593.out BK608.out (by decide)) (fun _ hk => hk.2) (.int .i64 t602)) (fun _ hk => hk.2) (.int .i64 t603)) (fun _ hk => hk.2) (.slice Ao36 t604.length co36)) (fun _ h_ => h_.1))) hb); have n2_ := Aside0.mk (Kd.R_below (by (with_reducible repeat (first | apply Kd.R_alloc | apply Kd.R_drewN | apply Kd.R_drew)); exact (Kd.R_mono (Kd.R_far (p := ⟨gb608, 2, none⟩) (Kd.R_far (p := ⟨gb608, 1, none⟩) (Kd.R_far (p := ⟨gb608, 0, none⟩) (Kd.R_types HO600.out BK608.out (by decide)) (fun _ hk => hk.2) (.int .i64 t602)) (fun _ hk => hk.2) (.int .i64 t603)) (fun _ hk => hk.2) (.slice Ao36 t604.length co36)) (fun _ h_ => h_.1))) hb); have n3_ := Aside0.mk (Kd.R_below (by (with_reducible repeat (first | apply Kd.R_alloc | apply Kd.R_drewN | apply Kd.R_drew)); exact (Kd.R_mono (Kd.R_far (p := ⟨gb608, 2, none⟩) (Kd.R_far (p := ⟨gb608, 1, none⟩) (Kd.R_far (p := ⟨gb608, 0, none⟩) (Kd.R_types HO606.out BK608.out (by decide)) (fun _ hk => hk.2) (.int .i64 t602)) (fun _ hk => hk.2) (.int .i64 t603)) (fun _ hk => hk.2) (.slice Ao36 t604.length co36)) (fun _ h_ => h_.1))) hb); have n4_ := Aside0.mk (blk_below (g := gb582) (o := .cells #[.int .i64 a0_0, .int .i64 a0_1, .slice A0_2 l0_2.length c0_2] 30 (0, 0)) (by (with_reducible repeat (first | refine blk_drewN ?_ _ | refine blk_drew ?_ | refine blk_alloc ?_ _)); refine blk_far ?_ NB582_608.out _; (with_reducible repeat (first | refine blk_drewN ?_ _ | refine blk_drew ?_ | refine blk_alloc ?_ _)); refine blk_far ?_ NB582_608.out _; (with_reducible repeat (first | refine blk_drewN ?_ _ | refine blk_drew ?_ | refine blk_alloc ?_ _)); refine blk_far ?_ NB582_608.out _; (with_reducible repeat (first | refine blk_drewN ?_ _ | refine blk_drew ?_ | refine blk_alloc ?_ _)); exact BK582.out) hb); have n5_ := Aside0.mk (blk_below (g := gb595) (o := .cells #[.int .i64 t589, .int .i64 t590, .slice Ao22 t591.length co22] 24 (0, 0)) (by (with_reducible repeat (first | refine blk_drewN ?_ _ | refine blk_drew ?_ | refine blk_alloc ?_ _)); refine blk_far ?_ NB595_608.out _; (with_reducible repeat (first | refine blk_drewN ?_ _ | refine blk_drew ?_ | refine blk_alloc ?_ _)); refine blk_far ?_ NB595_608.out _; (with_reducible repeat (first | refine blk_drewN ?_ _ | refine blk_drew ?_ | refine blk_alloc ?_ _)); refine blk_far ?_ NB595_608.out _; (with_reducible repeat (first | refine blk_drewN ?_ _ | refine blk_drew ?_ | refine blk_alloc ?_ _)); exact BK595.out) hb); have n6_ := Aside0.mk (blk_below (g := gb601) (o := .cells #[.int .i64 t596, .int .i64 t597, .slice Ao29 t598.length co29] 24 (0, 0)) (by (with_reducible repeat (first | refine blk_drewN ?_ _ | refine blk_drew ?_ | refine blk_alloc ?_ _)); refine blk_far ?_ NB601_608.out _; (with_reducible repeat (first | refine blk_drewN ?_ _ | refine blk_drew ?_ | refine blk_alloc ?_ _)); refine blk_far ?_ NB601_608.out _; (with_reducible repeat (first | refine blk_drewN ?_ _ | refine blk_drew ?_ | refine blk_alloc ?_ _)); refine blk_far ?_ NB601_608.out _; (with_reducible repeat (first | refine blk_drewN ?_ _ | refine blk_drew ?_ | refine blk_alloc ?_ _)); exact BK601.out) hb); have n7_ := Aside0.mk (blk_below (g := gb608) (o := .cells #[.int .i64 t602, .int .i64 t603, .slice Ao36 t604.length co36] 24 (0, 0)) (by (with_reducible repeat (first | refine blk_drewN ?_ _ | refine blk_drew ?_ | refine blk_alloc ?_ _)); refine blk_put (cs := #[.int .i64 t602, .int .i64 t603, .slice none 0 0]) ?_ 2 _ rfl; (with_reducible repeat (first | refine blk_drewN ?_ _ | refine blk_drew ?_ | refine blk_alloc ?_ _)); refine blk_put (cs := #[.int .i64 t602, .int .i64 0, .slice none 0 0]) ?_ 1 _ rfl; (with_reducible repeat (first | refine blk_drewN ?_ _ | refine blk_drew ?_ | refine blk_alloc ?_ _)); refine blk_put (cs := #[.int .i64 0, .int .i64 0, .slice none 0 0]) ?_ 0 _ rfl; (with_reducible repeat (first | refine blk_drewN ?_ _ | refine blk_drew ?_ | refine blk_alloc ?_ _)); exact BK608.out) hb); have n8_ := Aside0.mk (below_step (by repeat (first | (with_reducible first | exact HB.out | apply below_alloc | apply pw_below_drewN | apply below_drew1 | refine below_set ?_ GE582.out | refine below_set ?_ GE595.out | refine below_set ?_ GE601.out | refine below_set ?_ GE608.out) | exact HB.out)) hb); clear HO588; clear HO593; clear HO600; clear HO606; clear BK582; clear BK595; clear BK601; clear BK608; clear HB; have HO588 := n0_; have HO593 := n1_; have HO600 := n2_; have HO606 := n3_; have BK582 := n4_; have BK595 := n5_; have BK601 := n6_; have BK608 := n7_; have HB := n8_; clear n0_ n1_ n2_ n3_ n4_ n5_ n6_ n7_ n8_; (try clear hb); (try clear hb2); (try clear hk); (try clear hi)))
        go_meet
        case rel => exact ⟨_, ((t607 != t594)), (by first | rfl | (simp; done) | (simp [*]; done)), H', ⟨by first | omega | exact Nat.le_refl _⟩, ⟨by (with_reducible repeat (first | apply Kd.R_alloc | apply Kd.R_drewN | apply Kd.R_drew)); exact Kd.R_mono HO593.out (fun _ hk => ⟨hk.1.2, hk.2⟩)⟩, ⟨by (with_reducible repeat (first | apply Kd.R_alloc | apply Kd.R_drewN | apply Kd.R_drew)); exact Kd.R_mono HO600.out (fun _ hk => ⟨hk.1.2, hk.2⟩)⟩, ⟨by (with_reducible repeat (first | apply Kd.R_alloc | apply Kd.R_drewN | apply Kd.R_drew)); exact Kd.R_mono HO606.out (fun _ hk => ⟨hk.1.2, hk.2⟩)⟩, ⟨by (with_reducible repeat (first | refine blk_drewN ?_ _ | refine blk_drew ?_ | refine blk_alloc ?_ _)); exact BK582.out⟩, ⟨by (with_reducible repeat (first | refine blk_drewN ?_ _ | refine blk_drew ?_ | refine blk_alloc ?_ _)); exact BK595.out⟩, ⟨by (with_reducible repeat (first | refine blk_drewN ?_ _ | refine blk_drew ?_ | refine blk_alloc ?_ _)); exact BK601.out⟩, ⟨by (with_reducible repeat (first | refine blk_drewN ?_ _ | refine blk_drew ?_ | refine blk_alloc ?_ _)); exact BK608.out⟩, ⟨by repeat (first | (with_reducible first | exact HB.out | apply below_alloc | apply pw_below_drewN | apply below_drew1 | refine below_set ?_ GE582.out | refine below_set ?_ GE595.out | refine below_set ?_ GE601.out | refine below_set ?_ GE608.out) | exact HB.out)⟩⟩
      · replace c38 := Bool.eq_false_iff.mpr c38
        subst c38
        have H1 : (laws_FnExactStripBorder.j0 k t594 t607 true a0_0 a0_1 l0_2 t589 t590 t591 t596 t597 t598 t602 t603 t604) = some r := by rw [if_neg (show ¬ (false = true) by decide)] at H; exact H
        clear H
        have H := H1
        clear H1
        have H' := Aside0.mk H
        clear H
        have hnb47 := NB608_582.out
        have hnc47 := NB582_608.out
        have hnb48 := NB608_595.out
        have hnc48 := NB595_608.out
        have hnb49 := NB608_601.out
        have hnc49 := NB601_608.out
        have hcz50_0 : w31.cell? ⟨gb608, 0, none⟩ = some (.int .i64 0) := (blk_cell BK608.out 0).trans rfl
        have hcz50_1 : w31.cell? ⟨gb608, 1, none⟩ = some (.int .i64 0) := (blk_cell BK608.out 1).trans rfl
        have hcz50_2 : w31.cell? ⟨gb608, 2, none⟩ = some (.slice none 0 0) := (blk_cell BK608.out 2).trans rfl
        have hfz50_0 := blk_frozen BK608.out 0
        have hfz50_1 := blk_frozen BK608.out 1
        have hfz50_2 := blk_frozen BK608.out 2
        have hnb51 := NB595_582.out
        have hnc51 := NB582_595.out
        have hnb52 := NB595_601.out
        have hnc52 := NB601_595.out
        have hcz53_0 : w31.cell? ⟨gb595, 0, none⟩ = some (.int .i64 t589) := (blk_cell BK595.out 0).trans rfl
        have hcz53_1 : w31.cell? ⟨gb595, 1, none⟩ = some (.int .i64 t590) := (blk_cell BK595.out 1).trans rfl
        have hcz53_2 : w31.cell? ⟨gb595, 2, none⟩ = some (.slice Ao22 t591.length co22) := (blk_cell BK595.out 2).trans rfl
        have hfz53_0 := blk_frozen BK595.out 0
        have hfz53_1 := blk_frozen BK595.out 1
        have hfz53_2 := blk_frozen BK595.out 2
        go_wp2_with (first | ((with_reducible refine gate_callee (f := 16) rfl ?_); refine goesL_ (some 34) rfl rfl Try.func16 (by kernel_rfl) rfl #[.agg #[.int .i64 t602, .int .i64 t603, .slice Ao36 t604.length co36], .agg #[.int .i64 t589, .int .i64 t590, .slice Ao22 t591.length co22]] rfl (by (try simp only [List.map_toArray, List.map_cons, List.map_nil]); first | done | rfl | (simp only [List.length_drop, List.length_take]; rfl)) ?_; (with_reducible refine (laws_eqChart.calls k t602 t603 _ _ t604 t589 t590 _ _ t591 false _ ?side1 ?side2 ?side3 ?side4 A37.out).mono ?_); (case side1 => refine (Kd.R_reads' (e := 3) (base := w.heap.size) (ok := fun k_ => (((True ∧ some k_ ≠ (.slice Ao17 t586.length co17 : Value).ownBlock) ∧ some k_ ≠ (.slice Ao22 t591.length co22 : Value).ownBlock) ∧ some k_ ≠ (.slice Ao29 t598.length co29 : Value).ownBlock)) (n := t604.length) (c := co36) ?_).2.2; exact (by (with_reducible repeat (first | apply Kd.R_alloc | apply Kd.R_drewN | apply Kd.R_drew)); exact (Kd.R_mono (Kd.R_far (p := ⟨gb608, 2, none⟩) (Kd.R_far (p := ⟨gb608, 1, none⟩) (Kd.R_far (p := ⟨gb608, 0, none⟩) (Kd.R_types HO606.out BK608.out (by decide)) (fun _ hk => hk.2) (.int .i64 t602)) (fun _ hk => hk.2) (.int .i64 t603)) (fun _ hk => hk.2) (.slice Ao36 t604.length co36)) (fun _ h_ => h_.1)))); (case side2 => exact (Kd.R_reads' HO606.out).2.1); (case side3 => refine (Kd.R_reads' (e := 3) (base := w.heap.size) (ok := fun k_ => (((True ∧ some k_ ≠ (.slice Ao17 t586.length co17 : Value).ownBlock) ∧ some k_ ≠ (.slice Ao29 t598.length co29 : Value).ownBlock) ∧ some k_ ≠ (.slice Ao36 t604.length co36 : Value).ownBlock)) (n := t591.length) (c := co22) ?_).2.2; exact (by (with_reducible repeat (first | apply Kd.R_alloc | apply Kd.R_drewN | apply Kd.R_drew)); exact (Kd.R_mono (Kd.R_far (p := ⟨gb608, 2, none⟩) (Kd.R_far (p := ⟨gb608, 1, none⟩) (Kd.R_far (p := ⟨gb608, 0, none⟩) (Kd.R_types HO593.out BK608.out (by decide)) (fun _ hk => hk.2) (.int .i64 t602)) (fun _ hk => hk.2) (.int .i64 t603)) (fun _ hk => hk.2) (.slice Ao36 t604.length co36)) (fun _ h_ => h_.1)))); (case side4 => exact (Kd.R_reads' HO593.out).2.1); rintro e w54 ⟨rfl, hb⟩; refine ⟨_, rfl, ?_⟩; have n0_ := Aside0.mk (Kd.R_below (by (with_reducible repeat (first | apply Kd.R_alloc | apply Kd.R_drewN | apply Kd.R_drew)); exact (Kd.R_mono (Kd.R_far (p := ⟨gb608, 2, none⟩) (Kd.R_far (p := ⟨gb608, 1, none⟩) (Kd.R_far (p := ⟨gb608, 0, none⟩) (Kd.R_types HO588.out BK608.out (by decide)) (fun _ hk => hk.2) (.int .i64 t602)) (fun _ hk => hk.2) (.int .i64 t603)) (fun _ hk => hk.2) (.slice Ao36 t604.length co36)) (fun _ h_ => h_.1))) hb); have n1_ := Aside0.mk (Kd.R_below (by (with_reducible repeat (first | apply Kd.R_alloc | apply Kd.R_drewN | apply Kd.R_drew)); exact (Kd.R_mono (Kd.R_far (p := ⟨gb608, 2, none⟩) (Kd.R_far (p := ⟨gb608, 1, none⟩) (Kd.R_far (p := ⟨gb608, 0, none⟩) (Kd.R_types HO593.out BK608.out (by decide)) (fun _ hk => hk.2) (.int .i64 t602)) (fun _ hk => hk.2) (.int .i64 t603)) (fun _ hk => hk.2) (.slice Ao36 t604.length co36)) (fun _ h_ => h_.1))) hb); have n2_ := Aside0.mk (Kd.R_below (by (with_reducible repeat (first | apply Kd.R_alloc | apply Kd.R_drewN | apply Kd.R_drew)); exact (Kd.R_mono (Kd.R_far (p := ⟨gb608, 2, none⟩) (Kd.R_far (p := ⟨gb608, 1, none⟩) (Kd.R_far (p := ⟨gb608, 0, none⟩) (Kd.R_types HO600.out BK608.out (by decide)) (fun _ hk => hk.2) (.int .i64 t602)) (fun _ hk => hk.2) (.int .i64 t603)) (fun _ hk => hk.2) (.slice Ao36 t604.length co36)) (fun _ h_ => h_.1))) hb); have n3_ := Aside0.mk (Kd.R_below (by (with_reducible repeat (first | apply Kd.R_alloc | apply Kd.R_drewN | apply Kd.R_drew)); exact (Kd.R_mono (Kd.R_far (p := ⟨gb608, 2, none⟩) (Kd.R_far (p := ⟨gb608, 1, none⟩) (Kd.R_far (p := ⟨gb608, 0, none⟩) (Kd.R_types HO606.out BK608.out (by decide)) (fun _ hk => hk.2) (.int .i64 t602)) (fun _ hk => hk.2) (.int .i64 t603)) (fun _ hk => hk.2) (.slice Ao36 t604.length co36)) (fun _ h_ => h_.1))) hb); have n4_ := Aside0.mk (blk_below (g := gb582) (o := .cells #[.int .i64 a0_0, .int .i64 a0_1, .slice A0_2 l0_2.length c0_2] 30 (0, 0)) (by (with_reducible repeat (first | refine blk_drewN ?_ _ | refine blk_drew ?_ | refine blk_alloc ?_ _)); refine blk_far ?_ NB582_608.out _; (with_reducible repeat (first | refine blk_drewN ?_ _ | refine blk_drew ?_ | refine blk_alloc ?_ _)); refine blk_far ?_ NB582_608.out _; (with_reducible repeat (first | refine blk_drewN ?_ _ | refine blk_drew ?_ | refine blk_alloc ?_ _)); refine blk_far ?_ NB582_608.out _; (with_reducible repeat (first | refine blk_drewN ?_ _ | refine blk_drew ?_ | refine blk_alloc ?_ _)); exact BK582.out) hb); have n5_ := Aside0.mk (blk_below (g := gb595) (o := .cells #[.int .i64 t589, .int .i64 t590, .slice Ao22 t591.length co22] 24 (0, 0)) (by (with_reducible repeat (first | refine blk_drewN ?_ _ | refine blk_drew ?_ | refine blk_alloc ?_ _)); refine blk_far ?_ NB595_608.out _; (with_reducible repeat (first | refine blk_drewN ?_ _ | refine blk_drew ?_ | refine blk_alloc ?_ _)); refine blk_far ?_ NB595_608.out _; (with_reducible repeat (first | refine blk_drewN ?_ _ | refine blk_drew ?_ | refine blk_alloc ?_ _)); refine blk_far ?_ NB595_608.out _; (with_reducible repeat (first | refine blk_drewN ?_ _ | refine blk_drew ?_ | refine blk_alloc ?_ _)); exact BK595.out) hb); have n6_ := Aside0.mk (blk_below (g := gb601) (o := .cells #[.int .i64 t596, .int .i64 t597, .slice Ao29 t598.length co29] 24 (0, 0)) (by (with_reducible repeat (first | refine blk_drewN ?_ _ | refine blk_drew ?_ | refine blk_alloc ?_ _)); refine blk_far ?_ NB601_608.out _; (with_reducible repeat (first | refine blk_drewN ?_ _ | refine blk_drew ?_ | refine blk_alloc ?_ _)); refine blk_far ?_ NB601_608.out _; (with_reducible repeat (first | refine blk_drewN ?_ _ | refine blk_drew ?_ | refine blk_alloc ?_ _)); refine blk_far ?_ NB601_608.out _; (with_reducible repeat (first | refine blk_drewN ?_ _ | refine blk_drew ?_ | refine blk_alloc ?_ _)); exact BK601.out) hb); have n7_ := Aside0.mk (blk_below (g := gb608) (o := .cells #[.int .i64 t602, .int .i64 t603, .slice Ao36 t604.length co36] 24 (0, 0)) (by (with_reducible repeat (first | refine blk_drewN ?_ _ | refine blk_drew ?_ | refine blk_alloc ?_ _)); refine blk_put (cs := #[.int .i64 t602, .int .i64 t603, .slice none 0 0]) ?_ 2 _ rfl; (with_reducible repeat (first | refine blk_drewN ?_ _ | refine blk_drew ?_ | refine blk_alloc ?_ _)); refine blk_put (cs := #[.int .i64 t602, .int .i64 0, .slice none 0 0]) ?_ 1 _ rfl; (with_reducible repeat (first | refine blk_drewN ?_ _ | refine blk_drew ?_ | refine blk_alloc ?_ _)); refine blk_put (cs := #[.int .i64 0, .int .i64 0, .slice none 0 0]) ?_ 0 _ rfl; (with_reducible repeat (first | refine blk_drewN ?_ _ | refine blk_drew ?_ | refine blk_alloc ?_ _)); exact BK608.out) hb); have n8_ := Aside0.mk (below_step (by repeat (first | (with_reducible first | exact HB.out | apply below_alloc | apply pw_below_drewN | apply below_drew1 | refine below_set ?_ GE582.out | refine below_set ?_ GE595.out | refine below_set ?_ GE601.out | refine below_set ?_ GE608.out) | exact HB.out)) hb); clear HO588; clear HO593; clear HO600; clear HO606; clear BK582; clear BK595; clear BK601; clear BK608; clear HB; have HO588 := n0_; have HO593 := n1_; have HO600 := n2_; have HO606 := n3_; have BK582 := n4_; have BK595 := n5_; have BK601 := n6_; have BK608 := n7_; have HB := n8_; clear n0_ n1_ n2_ n3_ n4_ n5_ n6_ n7_ n8_; (try clear hb); (try clear hb2); (try clear hk); (try clear hi)))
        go_meet
        case rel => exact ⟨_, (true), (by first | rfl | (simp; done) | (simp [*]; done)), H', ⟨by first | omega | exact Nat.le_refl _⟩, ⟨by (with_reducible repeat (first | apply Kd.R_alloc | apply Kd.R_drewN | apply Kd.R_drew)); exact Kd.R_mono HO593.out (fun _ hk => ⟨hk.1.2, hk.2⟩)⟩, ⟨by (with_reducible repeat (first | apply Kd.R_alloc | apply Kd.R_drewN | apply Kd.R_drew)); exact Kd.R_mono HO600.out (fun _ hk => ⟨hk.1.2, hk.2⟩)⟩, ⟨by (with_reducible repeat (first | apply Kd.R_alloc | apply Kd.R_drewN | apply Kd.R_drew)); exact Kd.R_mono HO606.out (fun _ hk => ⟨hk.1.2, hk.2⟩)⟩, ⟨by (with_reducible repeat (first | refine blk_drewN ?_ _ | refine blk_drew ?_ | refine blk_alloc ?_ _)); exact BK582.out⟩, ⟨by (with_reducible repeat (first | refine blk_drewN ?_ _ | refine blk_drew ?_ | refine blk_alloc ?_ _)); exact BK595.out⟩, ⟨by (with_reducible repeat (first | refine blk_drewN ?_ _ | refine blk_drew ?_ | refine blk_alloc ?_ _)); exact BK601.out⟩, ⟨by (with_reducible repeat (first | refine blk_drewN ?_ _ | refine blk_drew ?_ | refine blk_alloc ?_ _)); exact BK608.out⟩, ⟨by repeat (first | (with_reducible first | exact HB.out | apply below_alloc | apply pw_below_drewN | apply below_drew1 | refine below_set ?_ GE582.out | refine below_set ?_ GE595.out | refine below_set ?_ GE601.out | refine below_set ?_ GE608.out) | exact HB.out)⟩⟩
    case rest =>
      clear HC11
      try clear c1
      try clear c2
      try clear p2
      try clear c3
      try clear c3b0
      try clear c4
      try clear c5
      try clear c13
      try clear c16
      try clear c19
      try clear c20
      try clear c21
      try clear c26
      try clear c27
      try clear c32
      try clear c33
      try clear c34
      try clear c38
      try clear c39
      try clear c40
      try clear c41
      try clear c43
      try clear c44
      try clear c47
      try clear c48
      try clear c49
      try clear c51
      try clear c52
      try clear hcz13_0
      try clear hcz13_1
      try clear hcz13_2
      try clear hcz15_0
      try clear hcz15_1
      try clear hcz15_2
      try clear hcz21_0
      try clear hcz21_1
      try clear hcz21_2
      try clear hcz23_0
      try clear hcz23_1
      try clear hcz23_2
      try clear hcz28_0
      try clear hcz28_1
      try clear hcz28_2
      try clear hcz35_0
      try clear hcz35_1
      try clear hcz35_2
      try clear hcz42_0
      try clear hcz42_1
      try clear hcz42_2
      try clear hcz45_0
      try clear hcz45_1
      try clear hcz45_2
      try clear hcz50_0
      try clear hcz50_1
      try clear hcz50_2
      try clear hcz53_0
      try clear hcz53_1
      try clear hcz53_2
      try clear hcz5_0
      try clear hcz5_1
      try clear hcz5_2
      try clear hfz13_0
      try clear hfz13_1
      try clear hfz13_2
      try clear hfz15_0
      try clear hfz15_1
      try clear hfz15_2
      try clear hfz21_0
      try clear hfz21_1
      try clear hfz21_2
      try clear hfz23_0
      try clear hfz23_1
      try clear hfz23_2
      try clear hfz28_0
      try clear hfz28_1
      try clear hfz28_2
      try clear hfz35_0
      try clear hfz35_1
      try clear hfz35_2
      try clear hfz42_0
      try clear hfz42_1
      try clear hfz42_2
      try clear hfz45_0
      try clear hfz45_1
      try clear hfz45_2
      try clear hfz50_0
      try clear hfz50_1
      try clear hfz50_2
      try clear hfz53_0
      try clear hfz53_1
      try clear hfz53_2
      try clear hfz5_0
      try clear hfz5_1
      try clear hfz5_2
      obtain ⟨kq, x40_10, rfl, HA, HJ10, HO_596002, HO_602002, HO_609002, BK582, BK595, BK601, BK608, HB⟩ := hcut
      cases kq with
      | zero => exact absurd HA.out (by simp [laws_FnExactStripBorder.j0])
      | succ kj10 =>
        have H := HA.out
        clear HA
        simp only [laws_FnExactStripBorder.j0] at H
        by_cases c55 : x40_10 = true
        · subst c55
          have H1 : (some false) = some r := by rw [if_pos rfl] at H; exact H
          clear H
          have H := H1
          clear H1
          obtain rfl := Option.some.inj H
          go_wp2
          go_ret
          exact ⟨by first | rfl | (simp [errW_none, errW_some] <;> rfl) | (simp [*, errW_none, errW_some] <;> rfl), by repeat (first | (with_reducible first | exact HB.out | apply below_alloc | apply pw_below_drewN | apply below_drew1 | refine below_set ?_ GE582.out | refine below_set ?_ GE595.out | refine below_set ?_ GE601.out | refine below_set ?_ GE608.out) | exact HB.out)⟩
        · replace c55 := Bool.eq_false_iff.mpr c55
          subst c55
          have H1 : ((laws_toChart.f kj10 a0_0 a0_1 l0_2).bind fun bt610 => ((laws_eqChart.f kj10 t596 t597 t598 bt610.1 bt610.2.1 bt610.2.2).bind fun t615 => (if t615 = true then ((laws_markChart.f kj10 t596 t597 t598 1).bind fun bt616 => (if bt616.1 < 0 then (laws_FnExactStripBorder.j1 kj10 t594 true a0_0 a0_1 l0_2 t589 t590 t591 t602 t603 t604) else ((laws_eqChart.f kj10 t602 t603 t604 t589 t590 t591).bind fun t618 => (if t618 = true then (laws_FnExactStripBorder.j1 kj10 t594 (t607 != t594) a0_0 a0_1 l0_2 t589 t590 t591 t602 t603 t604) else (laws_FnExactStripBorder.j1 kj10 t594 true a0_0 a0_1 l0_2 t589 t590 t591 t602 t603 t604))))) else (some false)))) = some r := by rw [if_neg (show ¬ (false = true) by decide)] at H; exact H
          clear H
          have H := H1
          clear H1
          replace H := Option.bind_eq_some_iff.mp H
          obtain ⟨⟨t610, t611, t612⟩, A560, H⟩ := H
          replace H : ((laws_eqChart.f kj10 t596 t597 t598 t610 t611 t612).bind fun t615 => (if t615 = true then ((laws_markChart.f kj10 t596 t597 t598 1).bind fun bt616 => (if bt616.1 < 0 then (laws_FnExactStripBorder.j1 kj10 t594 true a0_0 a0_1 l0_2 t589 t590 t591 t602 t603 t604) else ((laws_eqChart.f kj10 t602 t603 t604 t589 t590 t591).bind fun t618 => (if t618 = true then (laws_FnExactStripBorder.j1 kj10 t594 (t607 != t594) a0_0 a0_1 l0_2 t589 t590 t591 t602 t603 t604) else (laws_FnExactStripBorder.j1 kj10 t594 true a0_0 a0_1 l0_2 t589 t590 t591 t602 t603 t604))))) else (some false))) = some r := H
          have A56 := Aside0.mk A560
          clear A560
          replace H := Option.bind_eq_some_iff.mp H
          obtain ⟨t615, A570, H⟩ := H
          replace H : (if t615 = true then ((laws_markChart.f kj10 t596 t597 t598 1).bind fun bt616 => (if bt616.1 < 0 then (laws_FnExactStripBorder.j1 kj10 t594 true a0_0 a0_1 l0_2 t589 t590 t591 t602 t603 t604) else ((laws_eqChart.f kj10 t602 t603 t604 t589 t590 t591).bind fun t618 => (if t618 = true then (laws_FnExactStripBorder.j1 kj10 t594 (t607 != t594) a0_0 a0_1 l0_2 t589 t590 t591 t602 t603 t604) else (laws_FnExactStripBorder.j1 kj10 t594 true a0_0 a0_1 l0_2 t589 t590 t591 t602 t603 t604))))) else (some false)) = some r := H
          have A57 := Aside0.mk A570
          clear A570
          by_cases c58 : t615 = true
          · subst c58
            have H1 : ((laws_markChart.f kj10 t596 t597 t598 1).bind fun bt616 => (if bt616.1 < 0 then (laws_FnExactStripBorder.j1 kj10 t594 true a0_0 a0_1 l0_2 t589 t590 t591 t602 t603 t604) else ((laws_eqChart.f kj10 t602 t603 t604 t589 t590 t591).bind fun t618 => (if t618 = true then (laws_FnExactStripBorder.j1 kj10 t594 (t607 != t594) a0_0 a0_1 l0_2 t589 t590 t591 t602 t603 t604) else (laws_FnExactStripBorder.j1 kj10 t594 true a0_0 a0_1 l0_2 t589 t590 t591 t602 t603 t604))))) = some r := by rw [if_pos rfl] at H; exact H
            clear H
            have H := H1
            clear H1
            replace H := Option.bind_eq_some_iff.mp H
            obtain ⟨⟨t616, t617⟩, A590, H⟩ := H
            replace H : (if t616 < 0 then (laws_FnExactStripBorder.j1 kj10 t594 true a0_0 a0_1 l0_2 t589 t590 t591 t602 t603 t604) else ((laws_eqChart.f kj10 t602 t603 t604 t589 t590 t591).bind fun t618 => (if t618 = true then (laws_FnExactStripBorder.j1 kj10 t594 (t607 != t594) a0_0 a0_1 l0_2 t589 t590 t591 t602 t603 t604) else (laws_FnExactStripBorder.j1 kj10 t594 true a0_0 a0_1 l0_2 t589 t590 t591 t602 t603 t604)))) = some r := H
            have A59 := Aside0.mk A590
            clear A590
            have HC60 := Aside0.mk H
            clear H
            try go_wp2
            have n0_ := Aside0.mk (Kd.R_drew HO_596002.out)
            have n1_ := Aside0.mk (Kd.R_drew HO_602002.out)
            have n2_ := Aside0.mk (Kd.R_drew HO_609002.out)
            have n3_ := Aside0.mk (blk_drew BK582.out)
            have n4_ := Aside0.mk (blk_drew BK595.out)
            have n5_ := Aside0.mk (blk_drew BK601.out)
            have n6_ := Aside0.mk (blk_drew BK608.out)
            have n7_ := Aside0.mk (below_drew1 HB.out)
            clear HO_596002
            clear HO_602002
            clear HO_609002
            clear BK582
            clear BK595
            clear BK601
            clear BK608
            clear HB
            have HO_596002 := n0_
            have HO_602002 := n1_
            have HO_609002 := n2_
            have BK582 := n3_
            have BK595 := n4_
            have BK601 := n5_
            have BK608 := n6_
            have HB := n7_
            clear n0_ n1_ n2_ n3_ n4_ n5_ n6_ n7_
            refine start_ (n := 5) (S := fun w' => w'.cell? ⟨gb601, 0, none⟩ = some (.int .i64 t596) ∧ w'.cell? ⟨gb601, 1, none⟩ = some (.int .i64 t597) ∧ w'.cell? ⟨gb601, 2, none⟩ = some (.slice Ao29 t598.length co29) ∧ w'.cell? ⟨gb582, 0, none⟩ = some (.int .i64 a0_0) ∧ w'.cell? ⟨gb582, 1, none⟩ = some (.int .i64 a0_1) ∧ w'.cell? ⟨gb582, 2, none⟩ = some (.slice A0_2 l0_2.length c0_2)) (ds := []) #[false, false, false, false, false] (by kernel_rfl) rfl rfl ⟨(blk_cell BK601.out 0).trans rfl, (blk_cell BK601.out 1).trans rfl, (blk_cell BK601.out 2).trans rfl, (blk_cell BK582.out 0).trans rfl, (blk_cell BK582.out 1).trans rfl, (blk_cell BK582.out 2).trans rfl⟩ (fun hHeld => ?_)
            generalize wc.drew = w61 at HO_596002 HO_602002 HO_609002 BK582 BK595 BK601 BK608 HB hHeld ⊢
            refine take_ (i := 0) (N := some 41) (v := ?_) (a' := ?_) #[true, false, false, false, false] rfl rfl (by kernel_rfl) (fun _ _ _ h => h) (Or.inl ⟨by rfl, ?_⟩) hHeld ?_ ?_
            rotate_left
            · rintro w' ⟨s0, s1, s2, s3, s4, s5⟩
              go_simp
              with_reducible rfl
            rotate_left
            · simp only [Act.put, List.setIfInBounds_toArray, List.set_cons_zero, List.set_cons_succ, i64_w, i32_w]
              rfl
            refine take_ (i := 1) (N := some 42) (v := ?_) (a' := ?_) #[true, true, false, false, false] rfl rfl (by kernel_rfl) (fun _ _ _ h => h) (Or.inl ⟨by rfl, ?_⟩) hHeld ?_ ?_
            rotate_left
            · rintro w' ⟨s0, s1, s2, s3, s4, s5⟩
              go_simp
              with_reducible rfl
            rotate_left
            · simp only [Act.put, List.setIfInBounds_toArray, List.set_cons_zero, List.set_cons_succ, i64_w, i32_w]
              rfl
            refine one_ (i := 2) (N := some 43) #[true, true, true, false, false] rfl rfl (by kernel_rfl) (by decide) (fun K hK => ?_)
            refine goes_ Try.func21 (by kernel_rfl) rfl #[.agg #[.int .i64 a0_0, .int .i64 a0_1, .slice A0_2 l0_2.length c0_2]] (by rfl) rfl rfl (by (try simp only [List.map_toArray, List.map_cons, List.map_nil]); first | done | rfl | (simp only [List.length_drop, List.length_take]; rfl)) ?_
            with_reducible refine (laws_toChart.calls kj10 a0_0 a0_1 _ _ l0_2 t610 t611 t612 _ ?side1 ?side2 A56.out).mono ?_
            (case side1 => repeat (first | exact (Kd.C_below HR0_2.out HB.out) | (with_reducible refine Kd.C_alloc ?_ _) | (with_reducible refine Kd.C_drewN ?_ _) | (with_reducible refine Kd.C_drew ?_)))
            (case side2 => exact HC0_2.out)
            rintro e w62 ⟨v613, rfl, ho0, hb⟩
            refine ⟨_, rfl, ?_⟩
            have n0_ := Aside0.mk (Kd.R_elder' (by (with_reducible repeat (first | apply Kd.R_alloc | apply Kd.R_drewN | apply Kd.R_drew)); exact HO_596002.out) (Kd.R_base ho0) hb)
            have n1_ := Aside0.mk (Kd.R_elder' (by (with_reducible repeat (first | apply Kd.R_alloc | apply Kd.R_drewN | apply Kd.R_drew)); exact HO_602002.out) (Kd.R_base ho0) hb)
            have n2_ := Aside0.mk (Kd.R_elder' (by (with_reducible repeat (first | apply Kd.R_alloc | apply Kd.R_drewN | apply Kd.R_drew)); exact HO_609002.out) (Kd.R_base ho0) hb)
            have n3_ := Aside0.mk (Kd.R_lower (Kd.R_new' (Kd.R_new' (Kd.R_new' ho0 (Kd.R_lt (by (with_reducible repeat (first | apply Kd.R_alloc | apply Kd.R_drewN | apply Kd.R_drew)); exact HO_596002.out))) (Kd.R_lt (by (with_reducible repeat (first | apply Kd.R_alloc | apply Kd.R_drewN | apply Kd.R_drew)); exact HO_602002.out))) (Kd.R_lt (by (with_reducible repeat (first | apply Kd.R_alloc | apply Kd.R_drewN | apply Kd.R_drew)); exact HO_609002.out))) (below_size (by repeat (first | (with_reducible first | exact HB.out | apply below_alloc | apply pw_below_drewN | apply below_drew1 | refine below_set ?_ GE582.out | refine below_set ?_ GE595.out | refine below_set ?_ GE601.out | refine below_set ?_ GE608.out) | exact HB.out))))
            have n4_ := Aside0.mk (blk_below (g := gb582) (o := .cells #[.int .i64 a0_0, .int .i64 a0_1, .slice A0_2 l0_2.length c0_2] 30 (0, 0)) (by (with_reducible repeat (first | refine blk_drewN ?_ _ | refine blk_drew ?_ | refine blk_alloc ?_ _)); exact BK582.out) hb)
            have n5_ := Aside0.mk (blk_below (g := gb595) (o := .cells #[.int .i64 t589, .int .i64 t590, .slice Ao22 t591.length co22] 24 (0, 0)) (by (with_reducible repeat (first | refine blk_drewN ?_ _ | refine blk_drew ?_ | refine blk_alloc ?_ _)); exact BK595.out) hb)
            have n6_ := Aside0.mk (blk_below (g := gb601) (o := .cells #[.int .i64 t596, .int .i64 t597, .slice Ao29 t598.length co29] 24 (0, 0)) (by (with_reducible repeat (first | refine blk_drewN ?_ _ | refine blk_drew ?_ | refine blk_alloc ?_ _)); exact BK601.out) hb)
            have n7_ := Aside0.mk (blk_below (g := gb608) (o := .cells #[.int .i64 t602, .int .i64 t603, .slice Ao36 t604.length co36] 24 (0, 0)) (by (with_reducible repeat (first | refine blk_drewN ?_ _ | refine blk_drew ?_ | refine blk_alloc ?_ _)); exact BK608.out) hb)
            have n8_ := Aside0.mk (below_step (by repeat (first | (with_reducible first | exact HB.out | apply below_alloc | apply pw_below_drewN | apply below_drew1 | refine below_set ?_ GE582.out | refine below_set ?_ GE595.out | refine below_set ?_ GE601.out | refine below_set ?_ GE608.out) | exact HB.out)) hb)
            clear HO_596002
            clear HO_602002
            clear HO_609002
            clear BK582
            clear BK595
            clear BK601
            clear BK608
            clear HB
            have HO_596002 := n0_
            have HO_602002 := n1_
            have HO_609002 := n2_
            have HO614 := n3_
            have BK582 := n4_
            have BK595 := n5_
            have BK601 := n6_
            have BK608 := n7_
            have HB := n8_
            clear n0_ n1_ n2_ n3_ n4_ n5_ n6_ n7_ n8_
            (try clear hb)
            (try clear hb2)
            (try clear hk)
            (try clear hi)
            (try clear ho0)
            obtain ⟨Ao63, co63, eo63⟩ := Kd.R_slice HO614.out
            (first | subst eo63 | (injection eo63 with f1_ f2_ f3_; have f4_ := f1_.symm; have f5_ := f3_.symm; clear f1_ f2_ f3_; subst f4_; subst f5_))
            refine hK.out _ _ ⟨(blk_cell BK601.out 0).trans rfl, (blk_cell BK601.out 1).trans rfl, (blk_cell BK601.out 2).trans rfl, (blk_cell BK582.out 0).trans rfl, (blk_cell BK582.out 1).trans rfl, (blk_cell BK582.out 2).trans rfl⟩ (fun hHeld => ?_)
            clear hK K
            refine norm_ (a' := ?_) ?_ ?_
            rotate_left
            · show Act.put _ (some 43) _ = _
              simp only [Act.put, List.setIfInBounds_toArray, List.set_cons_zero, List.set_cons_succ, i64_w, i32_w]
              rfl
            refine one_ (i := 3) (N := some 44) #[true, true, true, true, false] rfl rfl (by kernel_rfl) (by decide) (fun K hK => ?_)
            refine goes_ Try.func16 (by kernel_rfl) rfl #[.agg #[.int .i64 t596, .int .i64 t597, .slice Ao29 t598.length co29], .agg #[.int .i64 t610, .int .i64 t611, .slice Ao63 t612.length co63]] (by rfl) rfl rfl (by (try simp only [List.map_toArray, List.map_cons, List.map_nil]); first | done | rfl | (simp only [List.length_drop, List.length_take]; rfl)) ?_
            with_reducible refine (laws_eqChart.calls kj10 t596 t597 _ _ t598 t610 t611 _ _ t612 true _ ?side1 ?side2 ?side3 ?side4 A57.out).mono ?_
            (case side1 => repeat (first | exact (Kd.R_reads' HO_602002.out).2.2 | (with_reducible refine Kd.C_alloc ?_ _) | (with_reducible refine Kd.C_drewN ?_ _) | (with_reducible refine Kd.C_drew ?_)))
            (case side2 => exact (Kd.R_reads' HO_602002.out).2.1)
            (case side3 => repeat (first | exact (Kd.R_reads' HO614.out).2.2 | (with_reducible refine Kd.C_alloc ?_ _) | (with_reducible refine Kd.C_drewN ?_ _) | (with_reducible refine Kd.C_drew ?_)))
            (case side4 => exact (Kd.R_reads' HO614.out).2.1)
            rintro e w64 ⟨rfl, hb⟩
            refine ⟨_, rfl, ?_⟩
            have n0_ := Aside0.mk (Kd.R_below (by (with_reducible repeat (first | apply Kd.R_alloc | apply Kd.R_drewN | apply Kd.R_drew)); exact HO_596002.out) hb)
            have n1_ := Aside0.mk (Kd.R_below (by (with_reducible repeat (first | apply Kd.R_alloc | apply Kd.R_drewN | apply Kd.R_drew)); exact HO_602002.out) hb)
            have n2_ := Aside0.mk (Kd.R_below (by (with_reducible repeat (first | apply Kd.R_alloc | apply Kd.R_drewN | apply Kd.R_drew)); exact HO_609002.out) hb)
            have n3_ := Aside0.mk (Kd.R_below (by (with_reducible repeat (first | apply Kd.R_alloc | apply Kd.R_drewN | apply Kd.R_drew)); exact HO614.out) hb)
            have n4_ := Aside0.mk (blk_below (g := gb582) (o := .cells #[.int .i64 a0_0, .int .i64 a0_1, .slice A0_2 l0_2.length c0_2] 30 (0, 0)) (by (with_reducible repeat (first | refine blk_drewN ?_ _ | refine blk_drew ?_ | refine blk_alloc ?_ _)); exact BK582.out) hb)
            have n5_ := Aside0.mk (blk_below (g := gb595) (o := .cells #[.int .i64 t589, .int .i64 t590, .slice Ao22 t591.length co22] 24 (0, 0)) (by (with_reducible repeat (first | refine blk_drewN ?_ _ | refine blk_drew ?_ | refine blk_alloc ?_ _)); exact BK595.out) hb)
            have n6_ := Aside0.mk (blk_below (g := gb601) (o := .cells #[.int .i64 t596, .int .i64 t597, .slice Ao29 t598.length co29] 24 (0, 0)) (by (with_reducible repeat (first | refine blk_drewN ?_ _ | refine blk_drew ?_ | refine blk_alloc ?_ _)); exact BK601.out) hb)
            have n7_ := Aside0.mk (blk_below (g := gb608) (o := .cells #[.int .i64 t602, .int .i64 t603, .slice Ao36 t604.length co36] 24 (0, 0)) (by (with_reducible repeat (first | refine blk_drewN ?_ _ | refine blk_drew ?_ | refine blk_alloc ?_ _)); exact BK608.out) hb)
            have n8_ := Aside0.mk (below_step (by repeat (first | (with_reducible first | exact HB.out | apply below_alloc | apply pw_below_drewN | apply below_drew1 | refine below_set ?_ GE582.out | refine below_set ?_ GE595.out | refine below_set ?_ GE601.out | refine below_set ?_ GE608.out) | exact HB.out)) hb)
            clear HO_596002
            clear HO_602002
            clear HO_609002
            clear HO614
            clear BK582
            clear BK595
            clear BK601
            clear BK608
            clear HB
            have HO_596002 := n0_
            have HO_602002 := n1_
            have HO_609002 := n2_
            have HO614 := n3_
            have BK582 := n4_
            have BK595 := n5_
            have BK601 := n6_
            have BK608 := n7_
            have HB := n8_
            clear n0_ n1_ n2_ n3_ n4_ n5_ n6_ n7_ n8_
            (try clear hb)
            (try clear hb2)
            (try clear hk)
            (try clear hi)
            refine hK.out _ _ ⟨(blk_cell BK601.out 0).trans rfl, (blk_cell BK601.out 1).trans rfl, (blk_cell BK601.out 2).trans rfl, (blk_cell BK582.out 0).trans rfl, (blk_cell BK582.out 1).trans rfl, (blk_cell BK582.out 2).trans rfl⟩ (fun hHeld => ?_)
            clear hK K
            refine norm_ (a' := ?_) ?_ ?_
            rotate_left
            · show Act.put _ (some 44) _ = _
              simp only [Act.put, List.setIfInBounds_toArray, List.set_cons_zero, List.set_cons_succ, i64_w, i32_w]
              rfl
            refine pure_ (i := 4) (N := some 45) (v := ?_) (a' := ?_) #[true, true, true, true, true] rfl rfl (by kernel_rfl) (fun _ _ _ h => h) (Or.inl ⟨by rfl, ?_⟩) ?_ ?_
            rotate_left
            · intro w'
              go_simp
              with_reducible rfl
            rotate_left
            · simp only [Act.put, List.setIfInBounds_toArray, List.set_cons_zero, List.set_cons_succ, i64_w, i32_w]
              rfl
            refine done_ (by kernel_rfl) ?_
            have hnb65 := NB601_582.out
            have hnc65 := NB582_601.out
            have hnb66 := NB601_595.out
            have hnc66 := NB595_601.out
            have hnb67 := NB601_608.out
            have hnc67 := NB608_601.out
            have hcz68_0 : w64.cell? ⟨gb601, 0, none⟩ = some (.int .i64 t596) := (blk_cell BK601.out 0).trans rfl
            have hcz68_1 : w64.cell? ⟨gb601, 1, none⟩ = some (.int .i64 t597) := (blk_cell BK601.out 1).trans rfl
            have hcz68_2 : w64.cell? ⟨gb601, 2, none⟩ = some (.slice Ao29 t598.length co29) := (blk_cell BK601.out 2).trans rfl
            have hfz68_0 := blk_frozen BK601.out 0
            have hfz68_1 := blk_frozen BK601.out 1
            have hfz68_2 := blk_frozen BK601.out 2
            go_upto_region 14 with (first | ((with_reducible refine gate_callee (f := 17) rfl ?_); refine goesL_ (some 48) rfl rfl Try.func17 (by kernel_rfl) rfl #[.agg #[.int .i64 t596, .int .i64 t597, .slice Ao29 t598.length co29], .int .i64 1] rfl (by (try simp only [List.map_toArray, List.map_cons, List.map_nil]); first | done | rfl | (simp only [List.length_drop, List.length_take]; rfl)) ?_; (with_reducible refine (laws_markChart.calls kj10 t596 t597 (fun k_ => some k_ = (.slice Ao29 t598.length co29 : Value).ownBlock) (.slice Ao29 t598.length co29) t598 1 t616 t617 w _ ?side1 ?side2 A59.out).mono ?_); (case side1 => repeat (first | (with_reducible first | exact HB.out | apply below_alloc | apply pw_below_drewN | apply below_drew1 | refine below_set ?_ GE582.out | refine below_set ?_ GE595.out | refine below_set ?_ GE601.out | refine below_set ?_ GE608.out) | exact HB.out)); (case side2 => exact Kd.R_tight rfl HO_602002.out); rintro e w69 ⟨rfl, hy0, hb, hkp⟩; refine ⟨_, rfl, ?_⟩; have n0_ := Aside0.mk (Kd.R_mono (ok' := fun k_ => some k_ ≠ (.slice Ao29 t598.length co29 : Value).ownBlock ∧ some k_ ≠ (.slice Ao36 t604.length co36 : Value).ownBlock ∧ some k_ ≠ (.slice Ao63 t612.length co63 : Value).ownBlock) (Kd.R_keptB (HO_596002.out) hkp (fun k_ hk_ hs_ => (hk_.1.1) hs_)) (fun k_ hk_ => ⟨hk_.1.1.1, hk_.1.1.2, hk_.1.2⟩)); have n1_ := Aside0.mk (Kd.R_reok rfl hy0 (fun k_ e_ => HO_602002.out.1 k_ e_)); have n2_ := Aside0.mk (Kd.R_mono (ok' := fun k_ => some k_ ≠ (.slice Ao22 t591.length co22 : Value).ownBlock ∧ some k_ ≠ (.slice Ao29 t598.length co29 : Value).ownBlock ∧ some k_ ≠ (.slice Ao63 t612.length co63 : Value).ownBlock) (Kd.R_keptB (HO_609002.out) hkp (fun k_ hk_ hs_ => (hk_.1.2) hs_)) (fun k_ hk_ => ⟨hk_.1.1.1, hk_.1.1.2, hk_.1.2⟩)); have n3_ := Aside0.mk (blk_kept (by (with_reducible repeat (first | refine blk_drewN ?_ _ | refine blk_drew ?_ | refine blk_alloc ?_ _)); exact BK582.out) hkp (fun hs_ => (fun e_ => (Kd.R_ne HO_602002.out BK582.out (by decide)) e_) hs_)); have n4_ := Aside0.mk (blk_kept (by (with_reducible repeat (first | refine blk_drewN ?_ _ | refine blk_drew ?_ | refine blk_alloc ?_ _)); exact BK595.out) hkp (fun hs_ => (fun e_ => (Kd.R_ne HO_602002.out BK595.out (by decide)) e_) hs_)); have n5_ := Aside0.mk (blk_kept (by (with_reducible repeat (first | refine blk_drewN ?_ _ | refine blk_drew ?_ | refine blk_alloc ?_ _)); exact BK601.out) hkp (fun hs_ => (fun e_ => (Kd.R_ne HO_602002.out BK601.out (by decide)) e_) hs_)); have n6_ := Aside0.mk (blk_kept (by (with_reducible repeat (first | refine blk_drewN ?_ _ | refine blk_drew ?_ | refine blk_alloc ?_ _)); exact BK608.out) hkp (fun hs_ => (fun e_ => (Kd.R_ne HO_602002.out BK608.out (by decide)) e_) hs_)); have n7_ := Aside0.mk (Kd.R_mono (ok' := fun k_ => some k_ ≠ (.slice Ao22 t591.length co22 : Value).ownBlock ∧ some k_ ≠ (.slice Ao29 t598.length co29 : Value).ownBlock ∧ some k_ ≠ (.slice Ao36 t604.length co36 : Value).ownBlock) (Kd.R_keptB (HO614.out) hkp (fun k_ hk_ hs_ => (hk_.1.2) hs_)) (fun k_ hk_ => ⟨hk_.1.1.1.2, hk_.1.1.2, hk_.1.2⟩)); have n8_ := Aside0.mk (hb); clear HO_596002; clear HO_602002; clear HO_609002; clear BK582; clear BK595; clear BK601; clear BK608; clear HO614; clear HB; have HO_596002 := n0_; have HO_602002 := n1_; have HO_609002 := n2_; have BK582 := n3_; have BK595 := n4_; have BK601 := n5_; have BK608 := n6_; have HO614 := n7_; have HB := n8_; clear n0_ n1_ n2_ n3_ n4_ n5_ n6_ n7_ n8_; (try clear hb); (try clear hkp); (try clear hy0)))
            (try simp only [Act.put, List.setIfInBounds_toArray, List.set_cons_zero, List.set_cons_succ])
            go_cut [61] (fun v61 wc => ∃ (kq : Nat) (x61_59 : Bool), v61 = .bool x61_59 ∧ Aside0 (laws_FnExactStripBorder.j1 kq t594 x61_59 a0_0 a0_1 l0_2 t589 t590 t591 t602 t603 t604 = some r) ∧ Aside0 (kq ≤ kj10) ∧ Aside0 (Kd.R (Kd.int .i64) 3 wc w.heap.size (fun k_ => some k_ ≠ ((.slice Ao29 t598.length co29) : Value).ownBlock ∧ some k_ ≠ ((.slice Ao36 t604.length co36) : Value).ownBlock) (.slice Ao22 t591.length co22) t591) ∧ Aside0 (Kd.R (Kd.int .i64) 3 wc w.heap.size (fun k_ => some k_ ≠ ((.slice Ao22 t591.length co22) : Value).ownBlock ∧ some k_ ≠ ((.slice Ao36 t604.length co36) : Value).ownBlock) (.slice Ao29 t598.length co29) t617) ∧ Aside0 (Kd.R (Kd.int .i64) 3 wc w.heap.size (fun k_ => some k_ ≠ ((.slice Ao22 t591.length co22) : Value).ownBlock ∧ some k_ ≠ ((.slice Ao29 t598.length co29) : Value).ownBlock) (.slice Ao36 t604.length co36) t604) ∧ Aside0 (wc.heap[gb582]? = some (.cells #[.int .i64 a0_0, .int .i64 a0_1, (.slice A0_2 l0_2.length c0_2)] 30 (0, 0))) ∧ Aside0 (wc.heap[gb595]? = some (.cells #[.int .i64 t589, .int .i64 t590, (.slice Ao22 t591.length co22)] 24 (0, 0))) ∧ Aside0 (wc.heap[gb601]? = some (.cells #[.int .i64 t596, .int .i64 t597, (.slice Ao29 t598.length co29)] 24 (0, 0))) ∧ Aside0 (wc.heap[gb608]? = some (.cells #[.int .i64 t602, .int .i64 t603, (.slice Ao36 t604.length co36)] 24 (0, 0))) ∧ Aside0 (Below w.heap.size w wc))
            case first =>
              have H := HC60.out
              clear HC60
              by_cases c70 : t616 < 0
              · rw [if_pos c70] at H
                have c70b0 : decide (t616 < 0) = true := decide_eq_true c70
                clear c70
                (first | rw [c70b0] | (simp only [i64_w, i32_w]; rw [c70b0]) | skip)
                have H' := Aside0.mk H
                clear H
                go_wp2
                go_meet
                case rel => exact ⟨_, (true), (by first | rfl | (simp; done) | (simp [*]; done)), H', ⟨by have := HJ10.out; first | omega | exact Nat.le_refl _⟩, ⟨by (with_reducible repeat (first | apply Kd.R_alloc | apply Kd.R_drewN | apply Kd.R_drew)); exact Kd.R_mono HO_596002.out (fun _ hk => ⟨hk.1, hk.2.1⟩)⟩, ⟨by (with_reducible repeat (first | apply Kd.R_alloc | apply Kd.R_drewN | apply Kd.R_drew)); exact Kd.R_mono HO_602002.out (fun _ hk => ⟨hk.1.1, hk.1.2⟩)⟩, ⟨by (with_reducible repeat (first | apply Kd.R_alloc | apply Kd.R_drewN | apply Kd.R_drew)); exact Kd.R_mono HO_609002.out (fun _ hk => ⟨hk.1, hk.2.1⟩)⟩, ⟨by (with_reducible repeat (first | refine blk_drewN ?_ _ | refine blk_drew ?_ | refine blk_alloc ?_ _)); exact BK582.out⟩, ⟨by (with_reducible repeat (first | refine blk_drewN ?_ _ | refine blk_drew ?_ | refine blk_alloc ?_ _)); exact BK595.out⟩, ⟨by (with_reducible repeat (first | refine blk_drewN ?_ _ | refine blk_drew ?_ | refine blk_alloc ?_ _)); exact BK601.out⟩, ⟨by (with_reducible repeat (first | refine blk_drewN ?_ _ | refine blk_drew ?_ | refine blk_alloc ?_ _)); exact BK608.out⟩, ⟨by repeat (first | (with_reducible first | exact HB.out | apply below_alloc | apply pw_below_drewN | apply below_drew1 | refine below_set ?_ GE582.out | refine below_set ?_ GE595.out | refine below_set ?_ GE601.out | refine below_set ?_ GE608.out) | exact HB.out)⟩⟩
              · rw [if_neg c70] at H
                have c70b0 : decide (t616 < 0) = false := decide_eq_false c70
                clear c70
                (first | rw [c70b0] | (simp only [i64_w, i32_w]; rw [c70b0]) | skip)
                replace H := Option.bind_eq_some_iff.mp H
                obtain ⟨t618, A710, H⟩ := H
                replace H : (if t618 = true then (laws_FnExactStripBorder.j1 kj10 t594 (t607 != t594) a0_0 a0_1 l0_2 t589 t590 t591 t602 t603 t604) else (laws_FnExactStripBorder.j1 kj10 t594 true a0_0 a0_1 l0_2 t589 t590 t591 t602 t603 t604)) = some r := H
                have A71 := Aside0.mk A710
                clear A710
                by_cases c72 : t618 = true
                · subst c72
                  have H1 : (laws_FnExactStripBorder.j1 kj10 t594 (t607 != t594) a0_0 a0_1 l0_2 t589 t590 t591 t602 t603 t604) = some r := by rw [if_pos rfl] at H; exact H
                  clear H
                  have H := H1
                  clear H1
                  have H' := Aside0.mk H
                  clear H
                  have hnb73 := NB608_582.out
                  have hnc73 := NB582_608.out
                  have hnb74 := NB608_595.out
                  have hnc74 := NB595_608.out
                  have hnb75 := NB608_601.out
                  have hnc75 := NB601_608.out
                  have hcz76_0 : w69.cell? ⟨gb608, 0, none⟩ = some (.int .i64 t602) := (blk_cell BK608.out 0).trans rfl
                  have hcz76_1 : w69.cell? ⟨gb608, 1, none⟩ = some (.int .i64 t603) := (blk_cell BK608.out 1).trans rfl
                  have hcz76_2 : w69.cell? ⟨gb608, 2, none⟩ = some (.slice Ao36 t604.length co36) := (blk_cell BK608.out 2).trans rfl
                  have hfz76_0 := blk_frozen BK608.out 0
                  have hfz76_1 := blk_frozen BK608.out 1
                  have hfz76_2 := blk_frozen BK608.out 2
                  have hnb77 := NB595_582.out
                  have hnc77 := NB582_595.out
                  have hnb78 := NB595_601.out
                  have hnc78 := NB601_595.out
                  have hcz79_0 : w69.cell? ⟨gb595, 0, none⟩ = some (.int .i64 t589) := (blk_cell BK595.out 0).trans rfl
                  have hcz79_1 : w69.cell? ⟨gb595, 1, none⟩ = some (.int .i64 t590) := (blk_cell BK595.out 1).trans rfl
                  have hcz79_2 : w69.cell? ⟨gb595, 2, none⟩ = some (.slice Ao22 t591.length co22) := (blk_cell BK595.out 2).trans rfl
                  have hfz79_0 := blk_frozen BK595.out 0
                  have hfz79_1 := blk_frozen BK595.out 1
                  have hfz79_2 := blk_frozen BK595.out 2
                  go_wp2_with (first | (go_at_call 16; (with_reducible refine (laws_eqChart.calls kj10 t602 t603 _ _ t604 t589 t590 _ _ t591 true _ ?side1 ?side2 ?side3 ?side4 A71.out).mono ?_); (case side1 => repeat (first | exact (Kd.R_reads' HO_609002.out).2.2 | (with_reducible refine Kd.C_alloc ?_ _) | (with_reducible refine Kd.C_drewN ?_ _) | (with_reducible refine Kd.C_drew ?_))); (case side2 => exact (Kd.R_reads' HO_609002.out).2.1); (case side3 => repeat (first | exact (Kd.R_reads' HO_596002.out).2.2 | (with_reducible refine Kd.C_alloc ?_ _) | (with_reducible refine Kd.C_drewN ?_ _) | (with_reducible refine Kd.C_drew ?_))); (case side4 => exact (Kd.R_reads' HO_596002.out).2.1); rintro e w80 ⟨rfl, hb⟩; have n0_ := Aside0.mk (Kd.R_below (by (with_reducible repeat (first | apply Kd.R_alloc | apply Kd.R_drewN | apply Kd.R_drew)); exact HO_596002.out) hb); have n1_ := Aside0.mk (Kd.R_below (by (with_reducible repeat (first | apply Kd.R_alloc | apply Kd.R_drewN | apply Kd.R_drew)); exact HO_602002.out) hb); have n2_ := Aside0.mk (Kd.R_below (by (with_reducible repeat (first | apply Kd.R_alloc | apply Kd.R_drewN | apply Kd.R_drew)); exact HO_609002.out) hb); have n3_ := Aside0.mk (Kd.R_below (by (with_reducible repeat (first | apply Kd.R_alloc | apply Kd.R_drewN | apply Kd.R_drew)); exact HO614.out) hb); have n4_ := Aside0.mk (blk_below (g := gb582) (o := .cells #[.int .i64 a0_0, .int .i64 a0_1, .slice A0_2 l0_2.length c0_2] 30 (0, 0)) (by (with_reducible repeat (first | refine blk_drewN ?_ _ | refine blk_drew ?_ | refine blk_alloc ?_ _)); exact BK582.out) hb); have n5_ := Aside0.mk (blk_below (g := gb595) (o := .cells #[.int .i64 t589, .int .i64 t590, .slice Ao22 t591.length co22] 24 (0, 0)) (by (with_reducible repeat (first | refine blk_drewN ?_ _ | refine blk_drew ?_ | refine blk_alloc ?_ _)); exact BK595.out) hb); have n6_ := Aside0.mk (blk_below (g := gb601) (o := .cells #[.int .i64 t596, .int .i64 t597, .slice Ao29 t598.length co29] 24 (0, 0)) (by (with_reducible repeat (first | refine blk_drewN ?_ _ | refine blk_drew ?_ | refine blk_alloc ?_ _)); exact BK601.out) hb); have n7_ := Aside0.mk (blk_below (g := gb608) (o := .cells #[.int .i64 t602, .int .i64 t603, .slice Ao36 t604.length co36] 24 (0, 0)) (by (with_reducible repeat (first | refine blk_drewN ?_ _ | refine blk_drew ?_ | refine blk_alloc ?_ _)); exact BK608.out) hb); have n8_ := Aside0.mk (below_step (by repeat (first | (with_reducible first | exact HB.out | apply below_alloc | apply pw_below_drewN | apply below_drew1 | refine below_set ?_ GE582.out | refine below_set ?_ GE595.out | refine below_set ?_ GE601.out | refine below_set ?_ GE608.out) | exact HB.out)) hb); clear HO_596002; clear HO_602002; clear HO_609002; clear HO614; clear BK582; clear BK595; clear BK601; clear BK608; clear HB; have HO_596002 := n0_; have HO_602002 := n1_; have HO_609002 := n2_; have HO614 := n3_; have BK582 := n4_; have BK595 := n5_; have BK601 := n6_; have BK608 := n7_; have HB := n8_; clear n0_ n1_ n2_ n3_ n4_ n5_ n6_ n7_ n8_; (try clear hb); (try clear hb2); (try clear hk); (try clear hi)))
                  go_meet
                  case rel => exact ⟨_, ((t607 != t594)), (by first | rfl | (simp; done) | (simp [*]; done)), H', ⟨by have := HJ10.out; first | omega | exact Nat.le_refl _⟩, ⟨by (with_reducible repeat (first | apply Kd.R_alloc | apply Kd.R_drewN | apply Kd.R_drew)); exact Kd.R_mono HO_596002.out (fun _ hk => ⟨hk.1, hk.2.1⟩)⟩, ⟨by (with_reducible repeat (first | apply Kd.R_alloc | apply Kd.R_drewN | apply Kd.R_drew)); exact Kd.R_mono HO_602002.out (fun _ hk => ⟨hk.1.1, hk.1.2⟩)⟩, ⟨by (with_reducible repeat (first | apply Kd.R_alloc | apply Kd.R_drewN | apply Kd.R_drew)); exact Kd.R_mono HO_609002.out (fun _ hk => ⟨hk.1, hk.2.1⟩)⟩, ⟨by (with_reducible repeat (first | refine blk_drewN ?_ _ | refine blk_drew ?_ | refine blk_alloc ?_ _)); exact BK582.out⟩, ⟨by (with_reducible repeat (first | refine blk_drewN ?_ _ | refine blk_drew ?_ | refine blk_alloc ?_ _)); exact BK595.out⟩, ⟨by (with_reducible repeat (first | refine blk_drewN ?_ _ | refine blk_drew ?_ | refine blk_alloc ?_ _)); exact BK601.out⟩, ⟨by (with_reducible repeat (first | refine blk_drewN ?_ _ | refine blk_drew ?_ | refine blk_alloc ?_ _)); exact BK608.out⟩, ⟨by repeat (first | (with_reducible first | exact HB.out | apply below_alloc | apply pw_below_drewN | apply below_drew1 | refine below_set ?_ GE582.out | refine below_set ?_ GE595.out | refine below_set ?_ GE601.out | refine below_set ?_ GE608.out) | exact HB.out)⟩⟩
                · replace c72 := Bool.eq_false_iff.mpr c72
                  subst c72
                  have H1 : (laws_FnExactStripBorder.j1 kj10 t594 true a0_0 a0_1 l0_2 t589 t590 t591 t602 t603 t604) = some r := by rw [if_neg (show ¬ (false = true) by decide)] at H; exact H
                  clear H
                  have H := H1
                  clear H1
                  have H' := Aside0.mk H
                  clear H
                  have hnb81 := NB608_582.out
                  have hnc81 := NB582_608.out
                  have hnb82 := NB608_595.out
                  have hnc82 := NB595_608.out
                  have hnb83 := NB608_601.out
                  have hnc83 := NB601_608.out
                  have hcz84_0 : w69.cell? ⟨gb608, 0, none⟩ = some (.int .i64 t602) := (blk_cell BK608.out 0).trans rfl
                  have hcz84_1 : w69.cell? ⟨gb608, 1, none⟩ = some (.int .i64 t603) := (blk_cell BK608.out 1).trans rfl
                  have hcz84_2 : w69.cell? ⟨gb608, 2, none⟩ = some (.slice Ao36 t604.length co36) := (blk_cell BK608.out 2).trans rfl
                  have hfz84_0 := blk_frozen BK608.out 0
                  have hfz84_1 := blk_frozen BK608.out 1
                  have hfz84_2 := blk_frozen BK608.out 2
                  have hnb85 := NB595_582.out
                  have hnc85 := NB582_595.out
                  have hnb86 := NB595_601.out
                  have hnc86 := NB601_595.out
                  have hcz87_0 : w69.cell? ⟨gb595, 0, none⟩ = some (.int .i64 t589) := (blk_cell BK595.out 0).trans rfl
                  have hcz87_1 : w69.cell? ⟨gb595, 1, none⟩ = some (.int .i64 t590) := (blk_cell BK595.out 1).trans rfl
                  have hcz87_2 : w69.cell? ⟨gb595, 2, none⟩ = some (.slice Ao22 t591.length co22) := (blk_cell BK595.out 2).trans rfl
                  have hfz87_0 := blk_frozen BK595.out 0
                  have hfz87_1 := blk_frozen BK595.out 1
                  have hfz87_2 := blk_frozen BK595.out 2
                  go_wp2_with (first | (go_at_call 16; (with_reducible refine (laws_eqChart.calls kj10 t602 t603 _ _ t604 t589 t590 _ _ t591 false _ ?side1 ?side2 ?side3 ?side4 A71.out).mono ?_); (case side1 => repeat (first | exact (Kd.R_reads' HO_609002.out).2.2 | (with_reducible refine Kd.C_alloc ?_ _) | (with_reducible refine Kd.C_drewN ?_ _) | (with_reducible refine Kd.C_drew ?_))); (case side2 => exact (Kd.R_reads' HO_609002.out).2.1); (case side3 => repeat (first | exact (Kd.R_reads' HO_596002.out).2.2 | (with_reducible refine Kd.C_alloc ?_ _) | (with_reducible refine Kd.C_drewN ?_ _) | (with_reducible refine Kd.C_drew ?_))); (case side4 => exact (Kd.R_reads' HO_596002.out).2.1); rintro e w88 ⟨rfl, hb⟩; have n0_ := Aside0.mk (Kd.R_below (by (with_reducible repeat (first | apply Kd.R_alloc | apply Kd.R_drewN | apply Kd.R_drew)); exact HO_596002.out) hb); have n1_ := Aside0.mk (Kd.R_below (by (with_reducible repeat (first | apply Kd.R_alloc | apply Kd.R_drewN | apply Kd.R_drew)); exact HO_602002.out) hb); have n2_ := Aside0.mk (Kd.R_below (by (with_reducible repeat (first | apply Kd.R_alloc | apply Kd.R_drewN | apply Kd.R_drew)); exact HO_609002.out) hb); have n3_ := Aside0.mk (Kd.R_below (by (with_reducible repeat (first | apply Kd.R_alloc | apply Kd.R_drewN | apply Kd.R_drew)); exact HO614.out) hb); have n4_ := Aside0.mk (blk_below (g := gb582) (o := .cells #[.int .i64 a0_0, .int .i64 a0_1, .slice A0_2 l0_2.length c0_2] 30 (0, 0)) (by (with_reducible repeat (first | refine blk_drewN ?_ _ | refine blk_drew ?_ | refine blk_alloc ?_ _)); exact BK582.out) hb); have n5_ := Aside0.mk (blk_below (g := gb595) (o := .cells #[.int .i64 t589, .int .i64 t590, .slice Ao22 t591.length co22] 24 (0, 0)) (by (with_reducible repeat (first | refine blk_drewN ?_ _ | refine blk_drew ?_ | refine blk_alloc ?_ _)); exact BK595.out) hb); have n6_ := Aside0.mk (blk_below (g := gb601) (o := .cells #[.int .i64 t596, .int .i64 t597, .slice Ao29 t598.length co29] 24 (0, 0)) (by (with_reducible repeat (first | refine blk_drewN ?_ _ | refine blk_drew ?_ | refine blk_alloc ?_ _)); exact BK601.out) hb); have n7_ := Aside0.mk (blk_below (g := gb608) (o := .cells #[.int .i64 t602, .int .i64 t603, .slice Ao36 t604.length co36] 24 (0, 0)) (by (with_reducible repeat (first | refine blk_drewN ?_ _ | refine blk_drew ?_ | refine blk_alloc ?_ _)); exact BK608.out) hb); have n8_ := Aside0.mk (below_step (by repeat (first | (with_reducible first | exact HB.out | apply below_alloc | apply pw_below_drewN | apply below_drew1 | refine below_set ?_ GE582.out | refine below_set ?_ GE595.out | refine below_set ?_ GE601.out | refine below_set ?_ GE608.out) | exact HB.out)) hb); clear HO_596002; clear HO_602002; clear HO_609002; clear HO614; clear BK582; clear BK595; clear BK601; clear BK608; clear HB; have HO_596002 := n0_; have HO_602002 := n1_; have HO_609002 := n2_; have HO614 := n3_; have BK582 := n4_; have BK595 := n5_; have BK601 := n6_; have BK608 := n7_; have HB := n8_; clear n0_ n1_ n2_ n3_ n4_ n5_ n6_ n7_ n8_; (try clear hb); (try clear hb2); (try clear hk); (try clear hi)))
                  go_meet
                  case rel => exact ⟨_, (true), (by first | rfl | (simp; done) | (simp [*]; done)), H', ⟨by have := HJ10.out; first | omega | exact Nat.le_refl _⟩, ⟨by (with_reducible repeat (first | apply Kd.R_alloc | apply Kd.R_drewN | apply Kd.R_drew)); exact Kd.R_mono HO_596002.out (fun _ hk => ⟨hk.1, hk.2.1⟩)⟩, ⟨by (with_reducible repeat (first | apply Kd.R_alloc | apply Kd.R_drewN | apply Kd.R_drew)); exact Kd.R_mono HO_602002.out (fun _ hk => ⟨hk.1.1, hk.1.2⟩)⟩, ⟨by (with_reducible repeat (first | apply Kd.R_alloc | apply Kd.R_drewN | apply Kd.R_drew)); exact Kd.R_mono HO_609002.out (fun _ hk => ⟨hk.1, hk.2.1⟩)⟩, ⟨by (with_reducible repeat (first | refine blk_drewN ?_ _ | refine blk_drew ?_ | refine blk_alloc ?_ _)); exact BK582.out⟩, ⟨by (with_reducible repeat (first | refine blk_drewN ?_ _ | refine blk_drew ?_ | refine blk_alloc ?_ _)); exact BK595.out⟩, ⟨by (with_reducible repeat (first | refine blk_drewN ?_ _ | refine blk_drew ?_ | refine blk_alloc ?_ _)); exact BK601.out⟩, ⟨by (with_reducible repeat (first | refine blk_drewN ?_ _ | refine blk_drew ?_ | refine blk_alloc ?_ _)); exact BK608.out⟩, ⟨by repeat (first | (with_reducible first | exact HB.out | apply below_alloc | apply pw_below_drewN | apply below_drew1 | refine below_set ?_ GE582.out | refine below_set ?_ GE595.out | refine below_set ?_ GE601.out | refine below_set ?_ GE608.out) | exact HB.out)⟩⟩
            case rest =>
              clear HC60
              try clear c1
              try clear c2
              try clear p2
              try clear c3
              try clear c3b0
              try clear c4
              try clear c5
              try clear c6
              try clear c7
              try clear c8
              try clear c13
              try clear c16
              try clear c17
              try clear c19
              try clear c20
              try clear c21
              try clear c26
              try clear c27
              try clear c32
              try clear c33
              try clear c34
              try clear c38
              try clear c39
              try clear c40
              try clear c41
              try clear c43
              try clear c44
              try clear c47
              try clear c48
              try clear c49
              try clear c51
              try clear c52
              try clear c55
              try clear c58
              try clear c65
              try clear c66
              try clear c67
              try clear c70
              try clear c70b0
              try clear c72
              try clear c73
              try clear c74
              try clear c75
              try clear c77
              try clear c78
              try clear c81
              try clear c82
              try clear c83
              try clear c85
              try clear c86
              try clear hcz13_0
              try clear hcz13_1
              try clear hcz13_2
              try clear hcz15_0
              try clear hcz15_1
              try clear hcz15_2
              try clear hcz21_0
              try clear hcz21_1
              try clear hcz21_2
              try clear hcz23_0
              try clear hcz23_1
              try clear hcz23_2
              try clear hcz28_0
              try clear hcz28_1
              try clear hcz28_2
              try clear hcz35_0
              try clear hcz35_1
              try clear hcz35_2
              try clear hcz42_0
              try clear hcz42_1
              try clear hcz42_2
              try clear hcz45_0
              try clear hcz45_1
              try clear hcz45_2
              try clear hcz50_0
              try clear hcz50_1
              try clear hcz50_2
              try clear hcz53_0
              try clear hcz53_1
              try clear hcz53_2
              try clear hcz5_0
              try clear hcz5_1
              try clear hcz5_2
              try clear hcz68_0
              try clear hcz68_1
              try clear hcz68_2
              try clear hcz76_0
              try clear hcz76_1
              try clear hcz76_2
              try clear hcz79_0
              try clear hcz79_1
              try clear hcz79_2
              try clear hcz84_0
              try clear hcz84_1
              try clear hcz84_2
              try clear hcz87_0
              try clear hcz87_1
              try clear hcz87_2
              try clear hfz13_0
              try clear hfz13_1
              try clear hfz13_2
              try clear hfz15_0
              try clear hfz15_1
              try clear hfz15_2
              try clear hfz21_0
              try clear hfz21_1
              try clear hfz21_2
              try clear hfz23_0
              try clear hfz23_1
              try clear hfz23_2
              try clear hfz28_0
              try clear hfz28_1
              try clear hfz28_2
              try clear hfz35_0
              try clear hfz35_1
              try clear hfz35_2
              try clear hfz42_0
              try clear hfz42_1
              try clear hfz42_2
              try clear hfz45_0
              try clear hfz45_1
              try clear hfz45_2
              try clear hfz50_0
              try clear hfz50_1
              try clear hfz50_2
              try clear hfz53_0
              try clear hfz53_1
              try clear hfz53_2
              try clear hfz5_0
              try clear hfz5_1
              try clear hfz5_2
              try clear hfz68_0
              try clear hfz68_1
              try clear hfz68_2
              try clear hfz76_0
              try clear hfz76_1
              try clear hfz76_2
              try clear hfz79_0
              try clear hfz79_1
              try clear hfz79_2
              try clear hfz84_0
              try clear hfz84_1
              try clear hfz84_2
              try clear hfz87_0
              try clear hfz87_1
              try clear hfz87_2
              try clear p2
              obtain ⟨kq, x61_59, rfl, HA, HJ59, HO_596002, HO_602002, HO_609002, BK582, BK595, BK601, BK608, HB⟩ := hcut
              have hl602002_59 := (Kd.R_reads' HO_602002.out).1
              rw [hl602002_59] at HO_602002
              (try simp only [hl602002_59])
              (try simp only [hl602002_59] at BK582)
              (try simp only [hl602002_59] at BK595)
              (try simp only [hl602002_59] at BK601)
              (try simp only [hl602002_59] at BK608)
              (try simp only [hl602002_59] at HO_596002)
              (try simp only [hl602002_59] at HO_609002)
              cases kq with
              | zero => exact absurd HA.out (by simp [laws_FnExactStripBorder.j1])
              | succ kj59 =>
                have H := HA.out
                clear HA
                simp only [laws_FnExactStripBorder.j1] at H
                by_cases c89 : x61_59 = true
                · subst c89
                  have H1 : (some false) = some r := by rw [if_pos rfl] at H; exact H
                  clear H
                  have H := H1
                  clear H1
                  obtain rfl := Option.some.inj H
                  go_wp2
                  go_ret
                  exact ⟨by first | rfl | (simp [errW_none, errW_some] <;> rfl) | (simp [*, errW_none, errW_some] <;> rfl), by repeat (first | (with_reducible first | exact HB.out | apply below_alloc | apply pw_below_drewN | apply below_drew1 | refine below_set ?_ GE582.out | refine below_set ?_ GE595.out | refine below_set ?_ GE601.out | refine below_set ?_ GE608.out) | exact HB.out)⟩
                · replace c89 := Bool.eq_false_iff.mpr c89
                  subst c89
                  have H1 : ((laws_markChart.f kj59 t602 t603 t604 1).bind fun bt619 => ((laws_heldChart.f kj59 t602 t603 bt619.2 1).bind fun t621 => (if t621 < 0 then (some false) else (if t621 = bt619.1 then ((laws_toChart.f kj59 a0_0 a0_1 l0_2).bind fun bt622 => ((impl_StripBorder.f bt622.1 bt622.2.1 bt622.2.2).bind fun bt627 => ((laws_eqChart.f kj59 bt627.1 bt627.2.1 bt627.2.2.1 t589 t590 t591).bind fun t634 => (if t634 = true then (laws_FnExactStripBorder.j2 kj59 bt619.1 (bt627.2.2.2 != t594) t602 t603 bt619.2) else (laws_FnExactStripBorder.j2 kj59 bt619.1 true t602 t603 bt619.2))))) else (some false))))) = some r := by rw [if_neg (show ¬ (false = true) by decide)] at H; exact H
                  clear H
                  have H := H1
                  clear H1
                  replace H := Option.bind_eq_some_iff.mp H
                  obtain ⟨⟨t619, t620⟩, A900, H⟩ := H
                  replace H : ((laws_heldChart.f kj59 t602 t603 t620 1).bind fun t621 => (if t621 < 0 then (some false) else (if t621 = t619 then ((laws_toChart.f kj59 a0_0 a0_1 l0_2).bind fun bt622 => ((impl_StripBorder.f bt622.1 bt622.2.1 bt622.2.2).bind fun bt627 => ((laws_eqChart.f kj59 bt627.1 bt627.2.1 bt627.2.2.1 t589 t590 t591).bind fun t634 => (if t634 = true then (laws_FnExactStripBorder.j2 kj59 t619 (bt627.2.2.2 != t594) t602 t603 t620) else (laws_FnExactStripBorder.j2 kj59 t619 true t602 t603 t620))))) else (some false)))) = some r := H
                  have A90 := Aside0.mk A900
                  clear A900
                  replace H := Option.bind_eq_some_iff.mp H
                  obtain ⟨t621, A910, H⟩ := H
                  replace H : (if t621 < 0 then (some false) else (if t621 = t619 then ((laws_toChart.f kj59 a0_0 a0_1 l0_2).bind fun bt622 => ((impl_StripBorder.f bt622.1 bt622.2.1 bt622.2.2).bind fun bt627 => ((laws_eqChart.f kj59 bt627.1 bt627.2.1 bt627.2.2.1 t589 t590 t591).bind fun t634 => (if t634 = true then (laws_FnExactStripBorder.j2 kj59 t619 (bt627.2.2.2 != t594) t602 t603 t620) else (laws_FnExactStripBorder.j2 kj59 t619 true t602 t603 t620))))) else (some false))) = some r := H
                  have A91 := Aside0.mk A910
                  clear A910
                  by_cases c92 : t621 < 0
                  · rw [if_pos c92] at H
                    have c92b0 : decide (t621 < 0) = true := decide_eq_true c92
                    clear c92
                    obtain rfl := Option.some.inj H
                    have hnb93 := NB608_582.out
                    have hnc93 := NB582_608.out
                    have hnb94 := NB608_595.out
                    have hnc94 := NB595_608.out
                    have hnb95 := NB608_601.out
                    have hnc95 := NB601_608.out
                    have hcz96_0 : wc.cell? ⟨gb608, 0, none⟩ = some (.int .i64 t602) := (blk_cell BK608.out 0).trans rfl
                    have hcz96_1 : wc.cell? ⟨gb608, 1, none⟩ = some (.int .i64 t603) := (blk_cell BK608.out 1).trans rfl
                    have hcz96_2 : wc.cell? ⟨gb608, 2, none⟩ = some (.slice Ao36 t604.length co36) := (blk_cell BK608.out 2).trans rfl
                    have hfz96_0 := blk_frozen BK608.out 0
                    have hfz96_1 := blk_frozen BK608.out 1
                    have hfz96_2 := blk_frozen BK608.out 2
                    go_wp2_with (first | ((with_reducible refine gate_callee (f := 17) rfl ?_); refine goesL_ (some 64) rfl rfl Try.func17 (by kernel_rfl) rfl #[.agg #[.int .i64 t602, .int .i64 t603, .slice Ao36 t604.length co36], .int .i64 1] rfl (by (try simp only [List.map_toArray, List.map_cons, List.map_nil]); first | done | rfl | (simp only [List.length_drop, List.length_take]; rfl)) ?_; (with_reducible refine (laws_markChart.calls kj59 t602 t603 (fun k_ => some k_ = (.slice Ao36 t604.length co36 : Value).ownBlock) (.slice Ao36 t604.length co36) t604 1 t619 t620 w _ ?side1 ?side2 A90.out).mono ?_); (case side1 => repeat (first | (with_reducible first | exact HB.out | apply below_alloc | apply pw_below_drewN | apply below_drew1 | refine below_set ?_ GE582.out | refine below_set ?_ GE595.out | refine below_set ?_ GE601.out | refine below_set ?_ GE608.out) | exact HB.out)); (case side2 => exact Kd.R_tight rfl HO_609002.out); rintro e w97 ⟨rfl, hy0, hb, hkp⟩; refine ⟨_, rfl, ?_⟩; have n0_ := Aside0.mk (Kd.R_mono (ok' := fun k_ => some k_ ≠ (.slice Ao29 t617.length co29 : Value).ownBlock ∧ some k_ ≠ (.slice Ao36 t604.length co36 : Value).ownBlock) (Kd.R_keptB (HO_596002.out) hkp (fun k_ hk_ hs_ => (hk_.2) hs_)) (fun k_ hk_ => ⟨hk_.1.1, hk_.1.2⟩)); have n1_ := Aside0.mk (Kd.R_mono (ok' := fun k_ => some k_ ≠ (.slice Ao22 t591.length co22 : Value).ownBlock ∧ some k_ ≠ (.slice Ao36 t604.length co36 : Value).ownBlock) (Kd.R_keptB (HO_602002.out) hkp (fun k_ hk_ hs_ => (hk_.2) hs_)) (fun k_ hk_ => ⟨hk_.1.1, hk_.1.2⟩)); have n2_ := Aside0.mk (Kd.R_reok rfl hy0 (fun k_ e_ => HO_609002.out.1 k_ e_)); have n3_ := Aside0.mk (blk_kept (by (with_reducible repeat (first | refine blk_drewN ?_ _ | refine blk_drew ?_ | refine blk_alloc ?_ _)); exact BK582.out) hkp (fun hs_ => (fun e_ => (Kd.R_ne HO_609002.out BK582.out (by decide)) e_) hs_)); have n4_ := Aside0.mk (blk_kept (by (with_reducible repeat (first | refine blk_drewN ?_ _ | refine blk_drew ?_ | refine blk_alloc ?_ _)); exact BK595.out) hkp (fun hs_ => (fun e_ => (Kd.R_ne HO_609002.out BK595.out (by decide)) e_) hs_)); have n5_ := Aside0.mk (blk_kept (by (with_reducible repeat (first | refine blk_drewN ?_ _ | refine blk_drew ?_ | refine blk_alloc ?_ _)); exact BK601.out) hkp (fun hs_ => (fun e_ => (Kd.R_ne HO_609002.out BK601.out (by decide)) e_) hs_)); have n6_ := Aside0.mk (blk_kept (by (with_reducible repeat (first | refine blk_drewN ?_ _ | refine blk_drew ?_ | refine blk_alloc ?_ _)); exact BK608.out) hkp (fun hs_ => (fun e_ => (Kd.R_ne HO_609002.out BK608.out (by decide)) e_) hs_)); have n7_ := Aside0.mk (hb); clear HO_596002; clear HO_602002; clear HO_609002; clear BK582; clear BK595; clear BK601; clear BK608; clear HB; have HO_596002 := n0_; have HO_602002 := n1_; have HO_609002 := n2_; have BK582 := n3_; have BK595 := n4_; have BK601 := n5_; have BK608 := n6_; have HB := n7_; clear n0_ n1_ n2_ n3_ n4_ n5_ n6_ n7_; (try clear hb); (try clear hkp); (try clear hy0); have hcz98_0 : w97.cell? ⟨gb608, 0, none⟩ = some (.int .i64 t602) := (blk_cell BK608.out 0).trans rfl; have hcz98_1 : w97.cell? ⟨gb608, 1, none⟩ = some (.int .i64 t603) := (blk_cell BK608.out 1).trans rfl; have hcz98_2 : w97.cell? ⟨gb608, 2, none⟩ = some (.slice Ao36 t604.length co36) := (blk_cell BK608.out 2).trans rfl; have hfz98_0 := blk_frozen BK608.out 0; have hfz98_1 := blk_frozen BK608.out 1; have hfz98_2 := blk_frozen BK608.out 2) | ((with_reducible refine gate_callee (f := 18) rfl ?_); refine goesL_ (some 67) rfl rfl Try.func18 (by kernel_rfl) rfl #[.agg #[.int .i64 t602, .int .i64 t603, .slice Ao36 t620.length co36], .int .i64 1] rfl (by (try simp only [List.map_toArray, List.map_cons, List.map_nil]); first | done | (rw [show t620.length = t604.length from (Kd.R_reads' HO_609002.out).1.symm] <;> rfl) | rfl | (simp only [List.length_drop, List.length_take]; rfl)) ?_; (with_reducible refine (laws_heldChart.calls kj59 t602 t603 _ _ t620 1 t621 _ ?side1 ?side2 A91.out).mono ?_); (case side1 => repeat (first | exact (Kd.R_reads' HO_609002.out).2.2 | (with_reducible refine Kd.C_alloc ?_ _) | (with_reducible refine Kd.C_drewN ?_ _) | (with_reducible refine Kd.C_drew ?_))); (case side2 => rw [show t620.length = t604.length from (Kd.R_reads' HO_609002.out).1.symm]; exact (Kd.R_reads' HO_609002.out).2.1); rintro e w99 ⟨rfl, hb⟩; refine ⟨_, rfl, ?_⟩; have n0_ := Aside0.mk (Kd.R_below (by (with_reducible repeat (first | apply Kd.R_alloc | apply Kd.R_drewN | apply Kd.R_drew)); exact HO_596002.out) hb); have n1_ := Aside0.mk (Kd.R_below (by (with_reducible repeat (first | apply Kd.R_alloc | apply Kd.R_drewN | apply Kd.R_drew)); exact HO_602002.out) hb); have n2_ := Aside0.mk (Kd.R_below (by (with_reducible repeat (first | apply Kd.R_alloc | apply Kd.R_drewN | apply Kd.R_drew)); exact HO_609002.out) hb); have n3_ := Aside0.mk (blk_below (g := gb582) (o := .cells #[.int .i64 a0_0, .int .i64 a0_1, .slice A0_2 l0_2.length c0_2] 30 (0, 0)) (by (with_reducible repeat (first | refine blk_drewN ?_ _ | refine blk_drew ?_ | refine blk_alloc ?_ _)); exact BK582.out) hb); have n4_ := Aside0.mk (blk_below (g := gb595) (o := .cells #[.int .i64 t589, .int .i64 t590, .slice Ao22 t591.length co22] 24 (0, 0)) (by (with_reducible repeat (first | refine blk_drewN ?_ _ | refine blk_drew ?_ | refine blk_alloc ?_ _)); exact BK595.out) hb); have n5_ := Aside0.mk (blk_below (g := gb601) (o := .cells #[.int .i64 t596, .int .i64 t597, .slice Ao29 t617.length co29] 24 (0, 0)) (by (with_reducible repeat (first | refine blk_drewN ?_ _ | refine blk_drew ?_ | refine blk_alloc ?_ _)); exact BK601.out) hb); have n6_ := Aside0.mk (blk_below (g := gb608) (o := .cells #[.int .i64 t602, .int .i64 t603, .slice Ao36 t604.length co36] 24 (0, 0)) (by (with_reducible repeat (first | refine blk_drewN ?_ _ | refine blk_drew ?_ | refine blk_alloc ?_ _)); exact BK608.out) hb); have n7_ := Aside0.mk (below_step (by repeat (first | (with_reducible first | exact HB.out | apply below_alloc | apply pw_below_drewN | apply below_drew1 | refine below_set ?_ GE582.out | refine below_set ?_ GE595.out | refine below_set ?_ GE601.out | refine below_set ?_ GE608.out) | exact HB.out)) hb); clear HO_596002; clear HO_602002; clear HO_609002; clear BK582; clear BK595; clear BK601; clear BK608; clear HB; have HO_596002 := n0_; have HO_602002 := n1_; have HO_609002 := n2_; have BK582 := n3_; have BK595 := n4_; have BK601 := n5_; have BK608 := n6_; have HB := n7_; clear n0_ n1_ n2_ n3_ n4_ n5_ n6_ n7_; (try clear hb); (try clear hb2); (try clear hk); (try clear hi)))
                    go_ret
                    exact ⟨by first | rfl | (simp [errW_none, errW_some] <;> rfl) | (simp [*, errW_none, errW_some] <;> rfl), by repeat (first | (with_reducible first | exact HB.out | apply below_alloc | apply pw_below_drewN | apply below_drew1 | refine below_set ?_ GE582.out | refine below_set ?_ GE595.out | refine below_set ?_ GE601.out | refine below_set ?_ GE608.out) | exact HB.out)⟩
                  · rw [if_neg c92] at H
                    have c92b0 : decide (t621 < 0) = false := decide_eq_false c92
                    clear c92
                    by_cases c100 : t621 = t619
                    · rw [if_pos c100] at H
                      have c100b0 : (t621 == t619) = true := beq_iff_eq.mpr c100
                      have c100b1 : (t621 != t619) = false := bne_eq_false_iff_eq.mpr c100
                      clear c100
                      replace H := Option.bind_eq_some_iff.mp H
                      obtain ⟨⟨t622, t623, t624⟩, A1010, H⟩ := H
                      replace H : ((impl_StripBorder.f t622 t623 t624).bind fun bt627 => ((laws_eqChart.f kj59 bt627.1 bt627.2.1 bt627.2.2.1 t589 t590 t591).bind fun t634 => (if t634 = true then (laws_FnExactStripBorder.j2 kj59 t619 (bt627.2.2.2 != t594) t602 t603 t620) else (laws_FnExactStripBorder.j2 kj59 t619 true t602 t603 t620)))) = some r := H
                      have A101 := Aside0.mk A1010
                      clear A1010
                      replace H := Option.bind_eq_some_iff.mp H
                      obtain ⟨⟨t627, t628, t629, t632⟩, A1020, H⟩ := H
                      replace H : ((laws_eqChart.f kj59 t627 t628 t629 t589 t590 t591).bind fun t634 => (if t634 = true then (laws_FnExactStripBorder.j2 kj59 t619 (t632 != t594) t602 t603 t620) else (laws_FnExactStripBorder.j2 kj59 t619 true t602 t603 t620))) = some r := H
                      have A102 := Aside0.mk A1020
                      clear A1020
                      have HC103 := Aside0.mk H
                      clear H
                      have hnb104 := NB608_582.out
                      have hnc104 := NB582_608.out
                      have hnb105 := NB608_595.out
                      have hnc105 := NB595_608.out
                      have hnb106 := NB608_601.out
                      have hnc106 := NB601_608.out
                      have hcz107_0 : wc.cell? ⟨gb608, 0, none⟩ = some (.int .i64 t602) := (blk_cell BK608.out 0).trans rfl
                      have hcz107_1 : wc.cell? ⟨gb608, 1, none⟩ = some (.int .i64 t603) := (blk_cell BK608.out 1).trans rfl
                      have hcz107_2 : wc.cell? ⟨gb608, 2, none⟩ = some (.slice Ao36 t604.length co36) := (blk_cell BK608.out 2).trans rfl
                      have hfz107_0 := blk_frozen BK608.out 0
                      have hfz107_1 := blk_frozen BK608.out 1
                      have hfz107_2 := blk_frozen BK608.out 2
                      go_upto_region 25 with (first | ((with_reducible refine gate_callee (f := 17) rfl ?_); refine goesL_ (some 64) rfl rfl Try.func17 (by kernel_rfl) rfl #[.agg #[.int .i64 t602, .int .i64 t603, .slice Ao36 t604.length co36], .int .i64 1] rfl (by (try simp only [List.map_toArray, List.map_cons, List.map_nil]); first | done | rfl | (simp only [List.length_drop, List.length_take]; rfl)) ?_; (with_reducible refine (laws_markChart.calls kj59 t602 t603 (fun k_ => some k_ = (.slice Ao36 t604.length co36 : Value).ownBlock) (.slice Ao36 t604.length co36) t604 1 t619 t620 w _ ?side1 ?side2 A90.out).mono ?_); (case side1 => repeat (first | (with_reducible first | exact HB.out | apply below_alloc | apply pw_below_drewN | apply below_drew1 | refine below_set ?_ GE582.out | refine below_set ?_ GE595.out | refine below_set ?_ GE601.out | refine below_set ?_ GE608.out) | exact HB.out)); (case side2 => exact Kd.R_tight rfl HO_609002.out); rintro e w108 ⟨rfl, hy0, hb, hkp⟩; refine ⟨_, rfl, ?_⟩; have n0_ := Aside0.mk (Kd.R_mono (ok' := fun k_ => some k_ ≠ (.slice Ao29 t617.length co29 : Value).ownBlock ∧ some k_ ≠ (.slice Ao36 t604.length co36 : Value).ownBlock) (Kd.R_keptB (HO_596002.out) hkp (fun k_ hk_ hs_ => (hk_.2) hs_)) (fun k_ hk_ => ⟨hk_.1.1, hk_.1.2⟩)); have n1_ := Aside0.mk (Kd.R_mono (ok' := fun k_ => some k_ ≠ (.slice Ao22 t591.length co22 : Value).ownBlock ∧ some k_ ≠ (.slice Ao36 t604.length co36 : Value).ownBlock) (Kd.R_keptB (HO_602002.out) hkp (fun k_ hk_ hs_ => (hk_.2) hs_)) (fun k_ hk_ => ⟨hk_.1.1, hk_.1.2⟩)); have n2_ := Aside0.mk (Kd.R_reok rfl hy0 (fun k_ e_ => HO_609002.out.1 k_ e_)); have n3_ := Aside0.mk (blk_kept (by (with_reducible repeat (first | refine blk_drewN ?_ _ | refine blk_drew ?_ | refine blk_alloc ?_ _)); exact BK582.out) hkp (fun hs_ => (fun e_ => (Kd.R_ne HO_609002.out BK582.out (by decide)) e_) hs_)); have n4_ := Aside0.mk (blk_kept (by (with_reducible repeat (first | refine blk_drewN ?_ _ | refine blk_drew ?_ | refine blk_alloc ?_ _)); exact BK595.out) hkp (fun hs_ => (fun e_ => (Kd.R_ne HO_609002.out BK595.out (by decide)) e_) hs_)); have n5_ := Aside0.mk (blk_kept (by (with_reducible repeat (first | refine blk_drewN ?_ _ | refine blk_drew ?_ | refine blk_alloc ?_ _)); exact BK601.out) hkp (fun hs_ => (fun e_ => (Kd.R_ne HO_609002.out BK601.out (by decide)) e_) hs_)); have n6_ := Aside0.mk (blk_kept (by (with_reducible repeat (first | refine blk_drewN ?_ _ | refine blk_drew ?_ | refine blk_alloc ?_ _)); exact BK608.out) hkp (fun hs_ => (fun e_ => (Kd.R_ne HO_609002.out BK608.out (by decide)) e_) hs_)); have n7_ := Aside0.mk (hb); clear HO_596002; clear HO_602002; clear HO_609002; clear BK582; clear BK595; clear BK601; clear BK608; clear HB; have HO_596002 := n0_; have HO_602002 := n1_; have HO_609002 := n2_; have BK582 := n3_; have BK595 := n4_; have BK601 := n5_; have BK608 := n6_; have HB := n7_; clear n0_ n1_ n2_ n3_ n4_ n5_ n6_ n7_; (try clear hb); (try clear hkp); (try clear hy0); have hcz109_0 : w108.cell? ⟨gb608, 0, none⟩ = some (.int .i64 t602) := (blk_cell BK608.out 0).trans rfl; have hcz109_1 : w108.cell? ⟨gb608, 1, none⟩ = some (.int .i64 t603) := (blk_cell BK608.out 1).trans rfl; have hcz109_2 : w108.cell? ⟨gb608, 2, none⟩ = some (.slice Ao36 t604.length co36) := (blk_cell BK608.out 2).trans rfl; have hfz109_0 := blk_frozen BK608.out 0; have hfz109_1 := blk_frozen BK608.out 1; have hfz109_2 := blk_frozen BK608.out 2) | ((with_reducible refine gate_callee (f := 18) rfl ?_); refine goesL_ (some 67) rfl rfl Try.func18 (by kernel_rfl) rfl #[.agg #[.int .i64 t602, .int .i64 t603, .slice Ao36 t620.length co36], .int .i64 1] rfl (by (try simp only [List.map_toArray, List.map_cons, List.map_nil]); first | done | (rw [show t620.length = t604.length from (Kd.R_reads' HO_609002.out).1.symm] <;> rfl) | rfl | (simp only [List.length_drop, List.length_take]; rfl)) ?_; (with_reducible refine (laws_heldChart.calls kj59 t602 t603 _ _ t620 1 t621 _ ?side1 ?side2 A91.out).mono ?_); (case side1 => repeat (first | exact (Kd.R_reads' HO_609002.out).2.2 | (with_reducible refine Kd.C_alloc ?_ _) | (with_reducible refine Kd.C_drewN ?_ _) | (with_reducible refine Kd.C_drew ?_))); (case side2 => rw [show t620.length = t604.length from (Kd.R_reads' HO_609002.out).1.symm]; exact (Kd.R_reads' HO_609002.out).2.1); rintro e w110 ⟨rfl, hb⟩; refine ⟨_, rfl, ?_⟩; have n0_ := Aside0.mk (Kd.R_below (by (with_reducible repeat (first | apply Kd.R_alloc | apply Kd.R_drewN | apply Kd.R_drew)); exact HO_596002.out) hb); have n1_ := Aside0.mk (Kd.R_below (by (with_reducible repeat (first | apply Kd.R_alloc | apply Kd.R_drewN | apply Kd.R_drew)); exact HO_602002.out) hb); have n2_ := Aside0.mk (Kd.R_below (by (with_reducible repeat (first | apply Kd.R_alloc | apply Kd.R_drewN | apply Kd.R_drew)); exact HO_609002.out) hb); have n3_ := Aside0.mk (blk_below (g := gb582) (o := .cells #[.int .i64 a0_0, .int .i64 a0_1, .slice A0_2 l0_2.length c0_2] 30 (0, 0)) (by (with_reducible repeat (first | refine blk_drewN ?_ _ | refine blk_drew ?_ | refine blk_alloc ?_ _)); exact BK582.out) hb); have n4_ := Aside0.mk (blk_below (g := gb595) (o := .cells #[.int .i64 t589, .int .i64 t590, .slice Ao22 t591.length co22] 24 (0, 0)) (by (with_reducible repeat (first | refine blk_drewN ?_ _ | refine blk_drew ?_ | refine blk_alloc ?_ _)); exact BK595.out) hb); have n5_ := Aside0.mk (blk_below (g := gb601) (o := .cells #[.int .i64 t596, .int .i64 t597, .slice Ao29 t617.length co29] 24 (0, 0)) (by (with_reducible repeat (first | refine blk_drewN ?_ _ | refine blk_drew ?_ | refine blk_alloc ?_ _)); exact BK601.out) hb); have n6_ := Aside0.mk (blk_below (g := gb608) (o := .cells #[.int .i64 t602, .int .i64 t603, .slice Ao36 t604.length co36] 24 (0, 0)) (by (with_reducible repeat (first | refine blk_drewN ?_ _ | refine blk_drew ?_ | refine blk_alloc ?_ _)); exact BK608.out) hb); have n7_ := Aside0.mk (below_step (by repeat (first | (with_reducible first | exact HB.out | apply below_alloc | apply pw_below_drewN | apply below_drew1 | refine below_set ?_ GE582.out | refine below_set ?_ GE595.out | refine below_set ?_ GE601.out | refine below_set ?_ GE608.out) | exact HB.out)) hb); clear HO_596002; clear HO_602002; clear HO_609002; clear BK582; clear BK595; clear BK601; clear BK608; clear HB; have HO_596002 := n0_; have HO_602002 := n1_; have HO_609002 := n2_; have BK582 := n3_; have BK595 := n4_; have BK601 := n5_; have BK608 := n6_; have HB := n7_; clear n0_ n1_ n2_ n3_ n4_ n5_ n6_ n7_; (try clear hb); (try clear hb2); (try clear hk); (try clear hi); have hnb111 := NB582_595.out; have hnc111 := NB595_582.out; have hnb112 := NB582_601.out; have hnc112 := NB601_582.out; have hcz113_0 : w110.cell? ⟨gb582, 0, none⟩ = some (.int .i64 a0_0) := (blk_cell BK582.out 0).trans rfl; have hcz113_1 : w110.cell? ⟨gb582, 1, none⟩ = some (.int .i64 a0_1) := (blk_cell BK582.out 1).trans rfl; have hcz113_2 : w110.cell? ⟨gb582, 2, none⟩ = some (.slice A0_2 l0_2.length c0_2) := (blk_cell BK582.out 2).trans rfl; have hfz113_0 := blk_frozen BK582.out 0; have hfz113_1 := blk_frozen BK582.out 1; have hfz113_2 := blk_frozen BK582.out 2) | ((with_reducible refine gate_callee (f := 21) rfl ?_); refine goesL_ (some 75) rfl rfl Try.func21 (by kernel_rfl) rfl #[.agg #[.int .i64 a0_0, .int .i64 a0_1, .slice A0_2 l0_2.length c0_2]] rfl (by (try simp only [List.map_toArray, List.map_cons, List.map_nil]); first | done | rfl | (simp only [List.length_drop, List.length_take]; rfl)) ?_; (with_reducible refine (laws_toChart.calls kj59 a0_0 a0_1 _ _ l0_2 t622 t623 t624 _ ?side1 ?side2 A101.out).mono ?_); (case side1 => repeat (first | exact (Kd.C_below HR0_2.out HB.out) | (with_reducible refine Kd.C_alloc ?_ _) | (with_reducible refine Kd.C_drewN ?_ _) | (with_reducible refine Kd.C_drew ?_))); (case side2 => exact HC0_2.out); rintro e w114 ⟨v625, rfl, ho0, hb⟩; refine ⟨_, rfl, ?_⟩; have n0_ := Aside0.mk (Kd.R_elder' (by (with_reducible repeat (first | apply Kd.R_alloc | apply Kd.R_drewN | apply Kd.R_drew)); exact HO_596002.out) (Kd.R_base ho0) hb); have n1_ := Aside0.mk (Kd.R_elder' (by (with_reducible repeat (first | apply Kd.R_alloc | apply Kd.R_drewN | apply Kd.R_drew)); exact HO_602002.out) (Kd.R_base ho0) hb); have n2_ := Aside0.mk (Kd.R_elder' (by (with_reducible repeat (first | apply Kd.R_alloc | apply Kd.R_drewN | apply Kd.R_drew)); exact HO_609002.out) (Kd.R_base ho0) hb); have n3_ := Aside0.mk (Kd.R_lower (Kd.R_new' (Kd.R_new' (Kd.R_new' ho0 (Kd.R_lt (by (with_reducible repeat (first | apply Kd.R_alloc | apply Kd.R_drewN | apply Kd.R_drew)); exact HO_596002.out))) (Kd.R_lt (by (with_reducible repeat (first | apply Kd.R_alloc | apply Kd.R_drewN | apply Kd.R_drew)); exact HO_602002.out))) (Kd.R_lt (by (with_reducible repeat (first | apply Kd.R_alloc | apply Kd.R_drewN | apply Kd.R_drew)); exact HO_609002.out))) (below_size (by repeat (first | (with_reducible first | exact HB.out | apply below_alloc | apply pw_below_drewN | apply below_drew1 | refine below_set ?_ GE582.out | refine below_set ?_ GE595.out | refine below_set ?_ GE601.out | refine below_set ?_ GE608.out) | exact HB.out)))); have n4_ := Aside0.mk (blk_below (g := gb582) (o := .cells #[.int .i64 a0_0, .int .i64 a0_1, .slice A0_2 l0_2.length c0_2] 30 (0, 0)) (by (with_reducible repeat (first | refine blk_drewN ?_ _ | refine blk_drew ?_ | refine blk_alloc ?_ _)); exact BK582.out) hb); have n5_ := Aside0.mk (blk_below (g := gb595) (o := .cells #[.int .i64 t589, .int .i64 t590, .slice Ao22 t591.length co22] 24 (0, 0)) (by (with_reducible repeat (first | refine blk_drewN ?_ _ | refine blk_drew ?_ | refine blk_alloc ?_ _)); exact BK595.out) hb); have n6_ := Aside0.mk (blk_below (g := gb601) (o := .cells #[.int .i64 t596, .int .i64 t597, .slice Ao29 t617.length co29] 24 (0, 0)) (by (with_reducible repeat (first | refine blk_drewN ?_ _ | refine blk_drew ?_ | refine blk_alloc ?_ _)); exact BK601.out) hb); have n7_ := Aside0.mk (blk_below (g := gb608) (o := .cells #[.int .i64 t602, .int .i64 t603, .slice Ao36 t604.length co36] 24 (0, 0)) (by (with_reducible repeat (first | refine blk_drewN ?_ _ | refine blk_drew ?_ | refine blk_alloc ?_ _)); exact BK608.out) hb); have n8_ := Aside0.mk (below_step (by repeat (first | (with_reducible first | exact HB.out | apply below_alloc | apply pw_below_drewN | apply below_drew1 | refine below_set ?_ GE582.out | refine below_set ?_ GE595.out | refine below_set ?_ GE601.out | refine below_set ?_ GE608.out) | exact HB.out)) hb); clear HO_596002; clear HO_602002; clear HO_609002; clear BK582; clear BK595; clear BK601; clear BK608; clear HB; have HO_596002 := n0_; have HO_602002 := n1_; have HO_609002 := n2_; have HO626 := n3_; have BK582 := n4_; have BK595 := n5_; have BK601 := n6_; have BK608 := n7_; have HB := n8_; clear n0_ n1_ n2_ n3_ n4_ n5_ n6_ n7_ n8_; (try clear hb); (try clear hb2); (try clear hk); (try clear hi); (try clear ho0); obtain ⟨Ao115, co115, eo115⟩ := Kd.R_slice HO626.out; subst eo115) | ((with_reducible refine gate_callee (f := 44) rfl ?_); refine goesL_ (some 76) rfl rfl Try.func44 (by kernel_rfl) rfl #[.agg #[.int .i64 t622, .int .i64 t623, .slice Ao115 t624.length co115]] rfl (by (try simp only [List.map_toArray, List.map_cons, List.map_nil]); first | done | rfl | (simp only [List.length_drop, List.length_take]; rfl)) ?_; (with_reducible refine (impl_StripBorder.calls t622 t623 _ _ t624 t627 t628 t629 t632 _ ?side1 ?side2 A102.out).mono ?_); (case side1 => repeat (first | exact (Kd.R_reads' HO626.out).2.2 | (with_reducible refine Kd.C_alloc ?_ _) | (with_reducible refine Kd.C_drewN ?_ _) | (with_reducible refine Kd.C_drew ?_))); (case side2 => exact (Kd.R_reads' HO626.out).2.1); rintro e w116 ⟨v630, rfl, ho0, hb⟩; refine ⟨_, rfl, ?_⟩; have n0_ := Aside0.mk (Kd.R_elder' (by (with_reducible repeat (first | apply Kd.R_alloc | apply Kd.R_drewN | apply Kd.R_drew)); exact HO_596002.out) (Kd.R_base ho0) hb); have n1_ := Aside0.mk (Kd.R_elder' (by (with_reducible repeat (first | apply Kd.R_alloc | apply Kd.R_drewN | apply Kd.R_drew)); exact HO_602002.out) (Kd.R_base ho0) hb); have n2_ := Aside0.mk (Kd.R_elder' (by (with_reducible repeat (first | apply Kd.R_alloc | apply Kd.R_drewN | apply Kd.R_drew)); exact HO_609002.out) (Kd.R_base ho0) hb); have n3_ := Aside0.mk (Kd.R_elder' (by (with_reducible repeat (first | apply Kd.R_alloc | apply Kd.R_drewN | apply Kd.R_drew)); exact HO626.out) (Kd.R_base ho0) hb); have n4_ := Aside0.mk (Kd.R_lower (Kd.R_new' (Kd.R_new' (Kd.R_new' (Kd.R_new' ho0 (Kd.R_lt (by (with_reducible repeat (first | apply Kd.R_alloc | apply Kd.R_drewN | apply Kd.R_drew)); exact HO_596002.out))) (Kd.R_lt (by (with_reducible repeat (first | apply Kd.R_alloc | apply Kd.R_drewN | apply Kd.R_drew)); exact HO_602002.out))) (Kd.R_lt (by (with_reducible repeat (first | apply Kd.R_alloc | apply Kd.R_drewN | apply Kd.R_drew)); exact HO_609002.out))) (Kd.R_lt (by (with_reducible repeat (first | apply Kd.R_alloc | apply Kd.R_drewN | apply Kd.R_drew)); exact HO626.out))) (below_size (by repeat (first | (with_reducible first | exact HB.out | apply below_alloc | apply pw_below_drewN | apply below_drew1 | refine below_set ?_ GE582.out | refine below_set ?_ GE595.out | refine below_set ?_ GE601.out | refine below_set ?_ GE608.out) | exact HB.out)))); have n5_ := Aside0.mk (blk_below (g := gb582) (o := .cells #[.int .i64 a0_0, .int .i64 a0_1, .slice A0_2 l0_2.length c0_2] 30 (0, 0)) (by (with_reducible repeat (first | refine blk_drewN ?_ _ | refine blk_drew ?_ | refine blk_alloc ?_ _)); exact BK582.out) hb); have n6_ := Aside0.mk (blk_below (g := gb595) (o := .cells #[.int .i64 t589, .int .i64 t590, .slice Ao22 t591.length co22] 24 (0, 0)) (by (with_reducible repeat (first | refine blk_drewN ?_ _ | refine blk_drew ?_ | refine blk_alloc ?_ _)); exact BK595.out) hb); have n7_ := Aside0.mk (blk_below (g := gb601) (o := .cells #[.int .i64 t596, .int .i64 t597, .slice Ao29 t617.length co29] 24 (0, 0)) (by (with_reducible repeat (first | refine blk_drewN ?_ _ | refine blk_drew ?_ | refine blk_alloc ?_ _)); exact BK601.out) hb); have n8_ := Aside0.mk (blk_below (g := gb608) (o := .cells #[.int .i64 t602, .int .i64 t603, .slice Ao36 t604.length co36] 24 (0, 0)) (by (with_reducible repeat (first | refine blk_drewN ?_ _ | refine blk_drew ?_ | refine blk_alloc ?_ _)); exact BK608.out) hb); have n9_ := Aside0.mk (below_step (by repeat (first | (with_reducible first | exact HB.out | apply below_alloc | apply pw_below_drewN | apply below_drew1 | refine below_set ?_ GE582.out | refine below_set ?_ GE595.out | refine below_set ?_ GE601.out | refine below_set ?_ GE608.out) | exact HB.out)) hb); clear HO_596002; clear HO_602002; clear HO_609002; clear HO626; clear BK582; clear BK595; clear BK601; clear BK608; clear HB; have HO_596002 := n0_; have HO_602002 := n1_; have HO_609002 := n2_; have HO626 := n3_; have HO631 := n4_; have BK582 := n5_; have BK595 := n6_; have BK601 := n7_; have BK608 := n8_; have HB := n9_; clear n0_ n1_ n2_ n3_ n4_ n5_ n6_ n7_ n8_ n9_; (try clear hb); (try clear hb2); (try clear hk); (try clear hi); (try clear ho0)) | ((with_reducible refine gate_dst (N := 12) rfl ?_); refine box_event ?hg (N := 12) ?hd (cs := #[.int .i64 0, .int .i64 0, .slice none 0 0]) (t := 24) ?hr ?_; (case hd => rfl); (case hg => rfl); (case hr => first | (go_simp; done) | (go_simp; rfl)); intro gb633 hg w117 hbox hb; have n0_ := Aside0.mk (Kd.R_below (by (with_reducible repeat (first | apply Kd.R_alloc | apply Kd.R_drewN | apply Kd.R_drew)); exact HO_596002.out) hb); have n1_ := Aside0.mk (Kd.R_below (by (with_reducible repeat (first | apply Kd.R_alloc | apply Kd.R_drewN | apply Kd.R_drew)); exact HO_602002.out) hb); have n2_ := Aside0.mk (Kd.R_below (by (with_reducible repeat (first | apply Kd.R_alloc | apply Kd.R_drewN | apply Kd.R_drew)); exact HO_609002.out) hb); have n3_ := Aside0.mk (Kd.R_below (by (with_reducible repeat (first | apply Kd.R_alloc | apply Kd.R_drewN | apply Kd.R_drew)); exact HO626.out) hb); have n4_ := Aside0.mk (Kd.R_below (by (with_reducible repeat (first | apply Kd.R_alloc | apply Kd.R_drewN | apply Kd.R_drew)); exact HO631.out) hb); have n5_ := Aside0.mk (blk_below (g := gb582) (o := .cells #[.int .i64 a0_0, .int .i64 a0_1, .slice A0_2 l0_2.length c0_2] 30 (0, 0)) (by (with_reducible repeat (first | refine blk_drewN ?_ _ | refine blk_drew ?_ | refine blk_alloc ?_ _)); exact BK582.out) hb); have n6_ := Aside0.mk (blk_below (g := gb595) (o := .cells #[.int .i64 t589, .int .i64 t590, .slice Ao22 t591.length co22] 24 (0, 0)) (by (with_reducible repeat (first | refine blk_drewN ?_ _ | refine blk_drew ?_ | refine blk_alloc ?_ _)); exact BK595.out) hb); have n7_ := Aside0.mk (blk_below (g := gb601) (o := .cells #[.int .i64 t596, .int .i64 t597, .slice Ao29 t617.length co29] 24 (0, 0)) (by (with_reducible repeat (first | refine blk_drewN ?_ _ | refine blk_drew ?_ | refine blk_alloc ?_ _)); exact BK601.out) hb); have n8_ := Aside0.mk (blk_below (g := gb608) (o := .cells #[.int .i64 t602, .int .i64 t603, .slice Ao36 t604.length co36] 24 (0, 0)) (by (with_reducible repeat (first | refine blk_drewN ?_ _ | refine blk_drew ?_ | refine blk_alloc ?_ _)); exact BK608.out) hb); have n9_ := Aside0.mk (below_step (by repeat (first | (with_reducible first | exact HB.out | apply below_alloc | apply pw_below_drewN | apply below_drew1 | refine below_set ?_ GE582.out | refine below_set ?_ GE595.out | refine below_set ?_ GE601.out | refine below_set ?_ GE608.out) | exact HB.out)) hb); have n10_ := Aside0.mk (hbox); have n11_ := Aside0.mk ((by rw [hg]; exact (below_size (by repeat (first | (with_reducible first | exact HB.out | apply below_alloc | apply pw_below_drewN | apply below_drew1 | refine below_set ?_ GE582.out | refine below_set ?_ GE595.out | refine below_set ?_ GE601.out | refine below_set ?_ GE608.out) | exact HB.out))) : w.heap.size ≤ gb633)); have n12_ := Aside0.mk ((by rw [hg]; exact (below_size (by repeat (first | (with_reducible first | exact HB.out | apply below_alloc | apply pw_below_drewN | apply below_drew1 | refine below_set ?_ GE582.out | refine below_set ?_ GE595.out | refine below_set ?_ GE601.out | refine below_set ?_ GE608.out) | exact HB.out))) : w.heap.size ≤ gb633)); have n13_ := Aside0.mk ((by rw [hg]; exact Nat.ne_of_lt (blk_lt (g := gb582) (o := .cells #[.int .i64 a0_0, .int .i64 a0_1, .slice A0_2 l0_2.length c0_2] 30 (0, 0)) (by (with_reducible repeat (first | refine blk_drewN ?_ _ | refine blk_drew ?_ | refine blk_alloc ?_ _)); exact BK582.out)) : gb582 ≠ gb633)); have n14_ := Aside0.mk ((by rw [hg]; exact Nat.ne_of_gt (blk_lt (g := gb582) (o := .cells #[.int .i64 a0_0, .int .i64 a0_1, .slice A0_2 l0_2.length c0_2] 30 (0, 0)) (by (with_reducible repeat (first | refine blk_drewN ?_ _ | refine blk_drew ?_ | refine blk_alloc ?_ _)); exact BK582.out)) : gb633 ≠ gb582)); have n15_ := Aside0.mk ((by rw [hg]; exact Nat.ne_of_lt (blk_lt (g := gb595) (o := .cells #[.int .i64 t589, .int .i64 t590, .slice Ao22 t591.length co22] 24 (0, 0)) (by (with_reducible repeat (first | refine blk_drewN ?_ _ | refine blk_drew ?_ | refine blk_alloc ?_ _)); exact BK595.out)) : gb595 ≠ gb633)); have n16_ := Aside0.mk ((by rw [hg]; exact Nat.ne_of_gt (blk_lt (g := gb595) (o := .cells #[.int .i64 t589, .int .i64 t590, .slice Ao22 t591.length co22] 24 (0, 0)) (by (with_reducible repeat (first | refine blk_drewN ?_ _ | refine blk_drew ?_ | refine blk_alloc ?_ _)); exact BK595.out)) : gb633 ≠ gb595)); have n17_ := Aside0.mk ((by rw [hg]; exact Nat.ne_of_lt (blk_lt (g := gb601) (o := .cells #[.int .i64 t596, .int .i64 t597, .slice Ao29 t617.length co29] 24 (0, 0)) (by (with_reducible repeat (first | refine blk_drewN ?_ _ | refine blk_drew ?_ | refine blk_alloc ?_ _)); exact BK601.out)) : gb601 ≠ gb633)); have n18_ := Aside0.mk ((by rw [hg]; exact Nat.ne_of_gt (blk_lt (g := gb601) (o := .cells #[.int .i64 t596, .int .i64 t597, .slice Ao29 t617.length co29] 24 (0, 0)) (by (with_reducible repeat (first | refine blk_drewN ?_ _ | refine blk_drew ?_ | refine blk_alloc ?_ _)); exact BK601.out)) : gb633 ≠ gb601)); have n19_ := Aside0.mk ((by rw [hg]; exact Nat.ne_of_lt (blk_lt (g := gb608) (o := .cells #[.int .i64 t602, .int .i64 t603, .slice Ao36 t604.length co36] 24 (0, 0)) (by (with_reducible repeat (first | refine blk_drewN ?_ _ | refine blk_drew ?_ | refine blk_alloc ?_ _)); exact BK608.out)) : gb608 ≠ gb633)); have n20_ := Aside0.mk ((by rw [hg]; exact Nat.ne_of_gt (blk_lt (g := gb608) (o := .cells #[.int .i64 t602, .int .i64 t603, .slice Ao36 t604.length co36] 24 (0, 0)) (by (with_reducible repeat (first | refine blk_drewN ?_ _ | refine blk_drew ?_ | refine blk_alloc ?_ _)); exact BK608.out)) : gb633 ≠ gb608)); clear HO_596002; clear HO_602002; clear HO_609002; clear HO626; clear HO631; clear BK582; clear BK595; clear BK601; clear BK608; clear HB; have HO_596002 := n0_; have HO_602002 := n1_; have HO_609002 := n2_; have HO626 := n3_; have HO631 := n4_; have BK582 := n5_; have BK595 := n6_; have BK601 := n7_; have BK608 := n8_; have HB := n9_; have BK633 := n10_; have GW633 := n11_; have GE633 := n12_; have NB582_633 := n13_; have NB633_582 := n14_; have NB595_633 := n15_; have NB633_595 := n16_; have NB601_633 := n17_; have NB633_601 := n18_; have NB608_633 := n19_; have NB633_608 := n20_; clear n0_ n1_ n2_ n3_ n4_ n5_ n6_ n7_ n8_ n9_ n10_ n11_ n12_ n13_ n14_ n15_ n16_ n17_ n18_ n19_ n20_; clear hb hbox hg; have hnb118 := NB633_582.out; have hnc118 := NB582_633.out; have hnb119 := NB633_595.out; have hnc119 := NB595_633.out; have hnb120 := NB633_601.out; have hnc120 := NB601_633.out; have hnb121 := NB633_608.out; have hnc121 := NB608_633.out; have hcz122_0 : w117.cell? ⟨gb633, 0, none⟩ = some (.int .i64 0) := (blk_cell BK633.out 0).trans rfl; have hcz122_1 : w117.cell? ⟨gb633, 1, none⟩ = some (.int .i64 0) := (blk_cell BK633.out 1).trans rfl; have hcz122_2 : w117.cell? ⟨gb633, 2, none⟩ = some (.slice none 0 0) := (blk_cell BK633.out 2).trans rfl; have hfz122_0 := blk_frozen BK633.out 0; have hfz122_1 := blk_frozen BK633.out 1; have hfz122_2 := blk_frozen BK633.out 2; obtain ⟨Ao123, co123, eo123⟩ := Kd.R_slice HO631.out; subst eo123))
                      (try simp only [Act.put, List.setIfInBounds_toArray, List.set_cons_zero, List.set_cons_succ])
                      go_cut [87] (fun v87 wc => ∃ (kq : Nat) (x87_102 : Bool), v87 = .bool x87_102 ∧ Aside0 (laws_FnExactStripBorder.j2 kq t619 x87_102 t602 t603 t620 = some r) ∧ Aside0 (kq ≤ kj59) ∧ Aside0 (Kd.R (Kd.int .i64) 3 wc w.heap.size (fun k_ => some k_ ≠ ((.slice Ao29 t617.length co29) : Value).ownBlock ∧ some k_ ≠ ((.slice Ao36 t604.length co36) : Value).ownBlock ∧ some k_ ≠ ((.slice Ao123 t629.length co123) : Value).ownBlock) (.slice Ao22 t591.length co22) t591) ∧ Aside0 (Kd.R (Kd.int .i64) 3 wc w.heap.size (fun k_ => some k_ ≠ ((.slice Ao22 t591.length co22) : Value).ownBlock ∧ some k_ ≠ ((.slice Ao36 t604.length co36) : Value).ownBlock ∧ some k_ ≠ ((.slice Ao123 t629.length co123) : Value).ownBlock) (.slice Ao29 t617.length co29) t617) ∧ Aside0 (Kd.R (Kd.int .i64) 3 wc w.heap.size (fun k_ => some k_ ≠ ((.slice Ao22 t591.length co22) : Value).ownBlock ∧ some k_ ≠ ((.slice Ao29 t617.length co29) : Value).ownBlock ∧ some k_ ≠ ((.slice Ao123 t629.length co123) : Value).ownBlock) (.slice Ao36 t604.length co36) t620) ∧ Aside0 (Kd.R (Kd.int .i64) 3 wc w.heap.size (fun k_ => some k_ ≠ ((.slice Ao22 t591.length co22) : Value).ownBlock ∧ some k_ ≠ ((.slice Ao29 t617.length co29) : Value).ownBlock ∧ some k_ ≠ ((.slice Ao36 t604.length co36) : Value).ownBlock) (.slice Ao123 t629.length co123) t629) ∧ Aside0 (wc.heap[gb582]? = some (.cells #[.int .i64 a0_0, .int .i64 a0_1, (.slice A0_2 l0_2.length c0_2)] 30 (0, 0))) ∧ Aside0 (wc.heap[gb595]? = some (.cells #[.int .i64 t589, .int .i64 t590, (.slice Ao22 t591.length co22)] 24 (0, 0))) ∧ Aside0 (wc.heap[gb601]? = some (.cells #[.int .i64 t596, .int .i64 t597, (.slice Ao29 t617.length co29)] 24 (0, 0))) ∧ Aside0 (wc.heap[gb608]? = some (.cells #[.int .i64 t602, .int .i64 t603, (.slice Ao36 t604.length co36)] 24 (0, 0))) ∧ Aside0 (wc.heap[gb633]? = some (.cells #[.int .i64 t627, .int .i64 t628, (.slice Ao123 t629.length co123)] 24 (0, 0))) ∧ Aside0 (Below w.heap.size w wc))
                      case first =>
                        have H := HC103.out
                        clear HC103
                        replace H := Option.bind_eq_some_iff.mp H
                        obtain ⟨t634, A1240, H⟩ := H
                        replace H : (if t634 = true then (laws_FnExactStripBorder.j2 kj59 t619 (t632 != t594) t602 t603 t620) else (laws_FnExactStripBorder.j2 kj59 t619 true t602 t603 t620)) = some r := H
                        have A124 := Aside0.mk A1240
                        clear A1240
                        by_cases c125 : t634 = true
                        · subst c125
                          have H1 : (laws_FnExactStripBorder.j2 kj59 t619 (t632 != t594) t602 t603 t620) = some r := by rw [if_pos rfl] at H; exact H
                          clear H
                          have H := H1
                          clear H1
                          have H' := Aside0.mk H
                          clear H
                          have hnb126 := NB633_582.out
                          have hnc126 := NB582_633.out
                          have hnb127 := NB633_595.out
                          have hnc127 := NB595_633.out
                          have hnb128 := NB633_601.out
                          have hnc128 := NB601_633.out
                          have hnb129 := NB633_608.out
                          have hnc129 := NB608_633.out
                          have hcz130_0 : w117.cell? ⟨gb633, 0, none⟩ = some (.int .i64 0) := (blk_cell BK633.out 0).trans rfl
                          have hcz130_1 : w117.cell? ⟨gb633, 1, none⟩ = some (.int .i64 0) := (blk_cell BK633.out 1).trans rfl
                          have hcz130_2 : w117.cell? ⟨gb633, 2, none⟩ = some (.slice none 0 0) := (blk_cell BK633.out 2).trans rfl
                          have hfz130_0 := blk_frozen BK633.out 0
                          have hfz130_1 := blk_frozen BK633.out 1
                          have hfz130_2 := blk_frozen BK633.out 2
                          have hnb131 := NB595_582.out
                          have hnc131 := NB582_595.out
                          have hnb132 := NB595_601.out
                          have hnc132 := NB601_595.out
                          have hnb133 := NB595_608.out
                          have hnc133 := NB608_595.out
                          have hcz134_0 : w117.cell? ⟨gb595, 0, none⟩ = some (.int .i64 t589) := (blk_cell BK595.out 0).trans rfl
                          have hcz134_1 : w117.cell? ⟨gb595, 1, none⟩ = some (.int .i64 t590) := (blk_cell BK595.out 1).trans rfl
                          have hcz134_2 : w117.cell? ⟨gb595, 2, none⟩ = some (.slice Ao22 t591.length co22) := (blk_cell BK595.out 2).trans rfl
                          have hfz134_0 := blk_frozen BK595.out 0
                          have hfz134_1 := blk_frozen BK595.out 1
                          have hfz134_2 := blk_frozen BK595.out 2
                          go_wp2_with (first | ((with_reducible refine gate_callee (f := 16) rfl ?_); refine goesL_ (some 81) rfl rfl Try.func16 (by kernel_rfl) rfl #[.agg #[.int .i64 t627, .int .i64 t628, .slice Ao123 t629.length co123], .agg #[.int .i64 t589, .int .i64 t590, .slice Ao22 t591.length co22]] rfl (by (try simp only [List.map_toArray, List.map_cons, List.map_nil]); first | done | rfl | (simp only [List.length_drop, List.length_take]; rfl)) ?_; (with_reducible refine (laws_eqChart.calls kj59 t627 t628 _ _ t629 t589 t590 _ _ t591 true _ ?side1 ?side2 ?side3 ?side4 A124.out).mono ?_); (case side1 => refine (Kd.R_reads' (e := 3) (base := w.heap.size) (ok := fun k_ => ((((True ∧ some k_ ≠ (.slice Ao22 t591.length co22 : Value).ownBlock) ∧ some k_ ≠ (.slice Ao29 t617.length co29 : Value).ownBlock) ∧ some k_ ≠ (.slice Ao36 t604.length co36 : Value).ownBlock) ∧ some k_ ≠ (.slice Ao115 t624.length co115 : Value).ownBlock)) (n := t629.length) (c := co123) ?_).2.2; exact (by (with_reducible repeat (first | apply Kd.R_alloc | apply Kd.R_drewN | apply Kd.R_drew)); exact (Kd.R_mono (Kd.R_far (p := ⟨gb633, 2, none⟩) (Kd.R_far (p := ⟨gb633, 1, none⟩) (Kd.R_far (p := ⟨gb633, 0, none⟩) (Kd.R_types HO631.out BK633.out (by decide)) (fun _ hk => hk.2) (.int .i64 t627)) (fun _ hk => hk.2) (.int .i64 t628)) (fun _ hk => hk.2) (.slice Ao123 t629.length co123)) (fun _ h_ => h_.1)))); (case side2 => exact (Kd.R_reads' HO631.out).2.1); (case side3 => refine (Kd.R_reads' (e := 3) (base := w.heap.size) (ok := fun k_ => (((some k_ ≠ (.slice Ao29 t617.length co29 : Value).ownBlock ∧ some k_ ≠ (.slice Ao36 t604.length co36 : Value).ownBlock) ∧ some k_ ≠ (.slice Ao115 t624.length co115 : Value).ownBlock) ∧ some k_ ≠ (.slice Ao123 t629.length co123 : Value).ownBlock)) (n := t591.length) (c := co22) ?_).2.2; exact (by (with_reducible repeat (first | apply Kd.R_alloc | apply Kd.R_drewN | apply Kd.R_drew)); exact (Kd.R_mono (Kd.R_far (p := ⟨gb633, 2, none⟩) (Kd.R_far (p := ⟨gb633, 1, none⟩) (Kd.R_far (p := ⟨gb633, 0, none⟩) (Kd.R_types HO_596002.out BK633.out (by decide)) (fun _ hk => hk.2) (.int .i64 t627)) (fun _ hk => hk.2) (.int .i64 t628)) (fun _ hk => hk.2) (.slice Ao123 t629.length co123)) (fun _ h_ => h_.1)))); (case side4 => exact (Kd.R_reads' HO_596002.out).2.1); rintro e w135 ⟨rfl, hb⟩; refine ⟨_, rfl, ?_⟩; have n0_ := Aside0.mk (Kd.R_below (by (with_reducible repeat (first | apply Kd.R_alloc | apply Kd.R_drewN | apply Kd.R_drew)); exact (Kd.R_mono (Kd.R_far (p := ⟨gb633, 2, none⟩) (Kd.R_far (p := ⟨gb633, 1, none⟩) (Kd.R_far (p := ⟨gb633, 0, none⟩) (Kd.R_types HO_596002.out BK633.out (by decide)) (fun _ hk => hk.2) (.int .i64 t627)) (fun _ hk => hk.2) (.int .i64 t628)) (fun _ hk => hk.2) (.slice Ao123 t629.length co123)) (fun _ h_ => h_.1))) hb); have n1_ := Aside0.mk (Kd.R_below (by (with_reducible repeat (first | apply Kd.R_alloc | apply Kd.R_drewN | apply Kd.R_drew)); exact (Kd.R_mono (Kd.R_far (p := ⟨gb633, 2, none⟩) (Kd.R_far (p := ⟨gb633, 1, none⟩) (Kd.R_far (p := ⟨gb633, 0, none⟩) (Kd.R_types HO_602002.out BK633.out (by decide)) (fun _ hk => hk.2) (.int .i64 t627)) (fun _ hk => hk.2) (.int .i64 t628)) (fun _ hk => hk.2) (.slice Ao123 t629.length co123)) (fun _ h_ => h_.1))) hb); have n2_ := Aside0.mk (Kd.R_below (by (with_reducible repeat (first | apply Kd.R_alloc | apply Kd.R_drewN | apply Kd.R_drew)); exact (Kd.R_mono (Kd.R_far (p := ⟨gb633, 2, none⟩) (Kd.R_far (p := ⟨gb633, 1, none⟩) (Kd.R_far (p := ⟨gb633, 0, none⟩) (Kd.R_types HO_609002.out BK633.out (by decide)) (fun _ hk => hk.2) (.int .i64 t627)) (fun _ hk => hk.2) (.int .i64 t628)) (fun _ hk => hk.2) (.slice Ao123 t629.length co123)) (fun _ h_ => h_.1))) hb); have n3_ := Aside0.mk (Kd.R_below (by (with_reducible repeat (first | apply Kd.R_alloc | apply Kd.R_drewN | apply Kd.R_drew)); exact (Kd.R_mono (Kd.R_far (p := ⟨gb633, 2, none⟩) (Kd.R_far (p := ⟨gb633, 1, none⟩) (Kd.R_far (p := ⟨gb633, 0, none⟩) (Kd.R_types HO626.out BK633.out (by decide)) (fun _ hk => hk.2) (.int .i64 t627)) (fun _ hk => hk.2) (.int .i64 t628)) (fun _ hk => hk.2) (.slice Ao123 t629.length co123)) (fun _ h_ => h_.1))) hb); have n4_ := Aside0.mk (Kd.R_below (by (with_reducible repeat (first | apply Kd.R_alloc | apply Kd.R_drewN | apply Kd.R_drew)); exact (Kd.R_mono (Kd.R_far (p := ⟨gb633, 2, none⟩) (Kd.R_far (p := ⟨gb633, 1, none⟩) (Kd.R_far (p := ⟨gb633, 0, none⟩) (Kd.R_types HO631.out BK633.out (by decide)) (fun _ hk => hk.2) (.int .i64 t627)) (fun _ hk => hk.2) (.int .i64 t628)) (fun _ hk => hk.2) (.slice Ao123 t629.length co123)) (fun _ h_ => h_.1))) hb); have n5_ := Aside0.mk (blk_below (g := gb582) (o := .cells #[.int .i64 a0_0, .int .i64 a0_1, .slice A0_2 l0_2.length c0_2] 30 (0, 0)) (by (with_reducible repeat (first | refine blk_drewN ?_ _ | refine blk_drew ?_ | refine blk_alloc ?_ _)); refine blk_far ?_ NB582_633.out _; (with_reducible repeat (first | refine blk_drewN ?_ _ | refine blk_drew ?_ | refine blk_alloc ?_ _)); refine blk_far ?_ NB582_633.out _; (with_reducible repeat (first | refine blk_drewN ?_ _ | refine blk_drew ?_ | refine blk_alloc ?_ _)); refine blk_far ?_ NB582_633.out _; (with_reducible repeat (first | refine blk_drewN ?_ _ | refine blk_drew ?_ | refine blk_alloc ?_ _)); exact BK582.out) hb); have n6_ := Aside0.mk (blk_below (g := gb595) (o := .cells #[.int .i64 t589, .int .i64 t590, .slice Ao22 t591.length co22] 24 (0, 0)) (by (with_reducible repeat (first | refine blk_drewN ?_ _ | refine blk_drew ?_ | refine blk_alloc ?_ _)); refine blk_far ?_ NB595_633.out _; (with_reducible repeat (first | refine blk_drewN ?_ _ | refine blk_drew ?_ | refine blk_alloc ?_ _)); refine blk_far ?_ NB595_633.out _; (with_reducible repeat (first | refine blk_drewN ?_ _ | refine blk_drew ?_ | refine blk_alloc ?_ _)); refine blk_far ?_ NB595_633.out _; (with_reducible repeat (first | refine blk_drewN ?_ _ | refine blk_drew ?_ | refine blk_alloc ?_ _)); exact BK595.out) hb); have n7_ := Aside0.mk (blk_below (g := gb601) (o := .cells #[.int .i64 t596, .int .i64 t597, .slice Ao29 t617.length co29] 24 (0, 0)) (by (with_reducible repeat (first | refine blk_drewN ?_ _ | refine blk_drew ?_ | refine blk_alloc ?_ _)); refine blk_far ?_ NB601_633.out _; (with_reducible repeat (first | refine blk_drewN ?_ _ | refine blk_drew ?_ | refine blk_alloc ?_ _)); refine blk_far ?_ NB601_633.out _; (with_reducible repeat (first | refine blk_drewN ?_ _ | refine blk_drew ?_ | refine blk_alloc ?_ _)); refine blk_far ?_ NB601_633.out _; (with_reducible repeat (first | refine blk_drewN ?_ _ | refine blk_drew ?_ | refine blk_alloc ?_ _)); exact BK601.out) hb); have n8_ := Aside0.mk (blk_below (g := gb608) (o := .cells #[.int .i64 t602, .int .i64 t603, .slice Ao36 t604.length co36] 24 (0, 0)) (by (with_reducible repeat (first | refine blk_drewN ?_ _ | refine blk_drew ?_ | refine blk_alloc ?_ _)); refine blk_far ?_ NB608_633.out _; (with_reducible repeat (first | refine blk_drewN ?_ _ | refine blk_drew ?_ | refine blk_alloc ?_ _)); refine blk_far ?_ NB608_633.out _; (with_reducible repeat (first | refine blk_drewN ?_ _ | refine blk_drew ?_ | refine blk_alloc ?_ _)); refine blk_far ?_ NB608_633.out _; (with_reducible repeat (first | refine blk_drewN ?_ _ | refine blk_drew ?_ | refine blk_alloc ?_ _)); exact BK608.out) hb); have n9_ := Aside0.mk (blk_below (g := gb633) (o := .cells #[.int .i64 t627, .int .i64 t628, .slice Ao123 t629.length co123] 24 (0, 0)) (by (with_reducible repeat (first | refine blk_drewN ?_ _ | refine blk_drew ?_ | refine blk_alloc ?_ _)); refine blk_put (cs := #[.int .i64 t627, .int .i64 t628, .slice none 0 0]) ?_ 2 _ rfl; (with_reducible repeat (first | refine blk_drewN ?_ _ | refine blk_drew ?_ | refine blk_alloc ?_ _)); refine blk_put (cs := #[.int .i64 t627, .int .i64 0, .slice none 0 0]) ?_ 1 _ rfl; (with_reducible repeat (first | refine blk_drewN ?_ _ | refine blk_drew ?_ | refine blk_alloc ?_ _)); refine blk_put (cs := #[.int .i64 0, .int .i64 0, .slice none 0 0]) ?_ 0 _ rfl; (with_reducible repeat (first | refine blk_drewN ?_ _ | refine blk_drew ?_ | refine blk_alloc ?_ _)); exact BK633.out) hb); have n10_ := Aside0.mk (below_step (by repeat (first | (with_reducible first | exact HB.out | apply below_alloc | apply pw_below_drewN | apply below_drew1 | refine below_set ?_ GE582.out | refine below_set ?_ GE595.out | refine below_set ?_ GE601.out | refine below_set ?_ GE608.out | refine below_set ?_ GE633.out) | exact HB.out)) hb); clear HO_596002; clear HO_602002; clear HO_609002; clear HO626; clear HO631; clear BK582; clear BK595; clear BK601; clear BK608; clear BK633; clear HB; have HO_596002 := n0_; have HO_602002 := n1_; have HO_609002 := n2_; have HO626 := n3_; have HO631 := n4_; have BK582 := n5_; have BK595 := n6_; have BK601 := n7_; have BK608 := n8_; have BK633 := n9_; have HB := n10_; clear n0_ n1_ n2_ n3_ n4_ n5_ n6_ n7_ n8_ n9_ n10_; (try clear hb); (try clear hb2); (try clear hk); (try clear hi)))
                          go_meet
                          case rel => exact ⟨_, ((t632 != t594)), (by first | rfl | (simp; done) | (simp [*]; done)), H', ⟨by have := HJ10.out; have := HJ59.out; first | omega | exact Nat.le_refl _⟩, ⟨by (try simp only [hl602002_59]); (with_reducible repeat (first | apply Kd.R_alloc | apply Kd.R_drewN | apply Kd.R_drew)); exact Kd.R_mono HO_596002.out (fun _ hk => ⟨hk.1.1.1, ⟨hk.1.1.2, hk.2⟩⟩)⟩, ⟨by (try simp only [hl602002_59]); (with_reducible repeat (first | apply Kd.R_alloc | apply Kd.R_drewN | apply Kd.R_drew)); exact Kd.R_mono HO_602002.out (fun _ hk => ⟨hk.1.1.1, ⟨hk.1.1.2, hk.2⟩⟩)⟩, ⟨by (try simp only [hl602002_59]); (with_reducible repeat (first | apply Kd.R_alloc | apply Kd.R_drewN | apply Kd.R_drew)); exact Kd.R_mono HO_609002.out (fun _ hk => ⟨hk.1.1.1, ⟨hk.1.1.2, hk.2⟩⟩)⟩, ⟨by (try simp only [hl602002_59]); (with_reducible repeat (first | apply Kd.R_alloc | apply Kd.R_drewN | apply Kd.R_drew)); exact Kd.R_mono HO631.out (fun _ hk => ⟨hk.1.1.1.2, ⟨hk.1.1.2, hk.1.2⟩⟩)⟩, ⟨by (try simp only [hl602002_59]); (with_reducible repeat (first | refine blk_drewN ?_ _ | refine blk_drew ?_ | refine blk_alloc ?_ _)); exact BK582.out⟩, ⟨by (try simp only [hl602002_59]); (with_reducible repeat (first | refine blk_drewN ?_ _ | refine blk_drew ?_ | refine blk_alloc ?_ _)); exact BK595.out⟩, ⟨by (try simp only [hl602002_59]); (with_reducible repeat (first | refine blk_drewN ?_ _ | refine blk_drew ?_ | refine blk_alloc ?_ _)); exact BK601.out⟩, ⟨by (try simp only [hl602002_59]); (with_reducible repeat (first | refine blk_drewN ?_ _ | refine blk_drew ?_ | refine blk_alloc ?_ _)); exact BK608.out⟩, ⟨by (try simp only [hl602002_59]); (with_reducible repeat (first | refine blk_drewN ?_ _ | refine blk_drew ?_ | refine blk_alloc ?_ _)); exact BK633.out⟩, ⟨by repeat (first | (with_reducible first | exact HB.out | apply below_alloc | apply pw_below_drewN | apply below_drew1 | refine below_set ?_ GE582.out | refine below_set ?_ GE595.out | refine below_set ?_ GE601.out | refine below_set ?_ GE608.out | refine below_set ?_ GE633.out) | exact HB.out)⟩⟩
                        · replace c125 := Bool.eq_false_iff.mpr c125
                          subst c125
                          have H1 : (laws_FnExactStripBorder.j2 kj59 t619 true t602 t603 t620) = some r := by rw [if_neg (show ¬ (false = true) by decide)] at H; exact H
                          clear H
                          have H := H1
                          clear H1
                          have H' := Aside0.mk H
                          clear H
                          have hnb136 := NB633_582.out
                          have hnc136 := NB582_633.out
                          have hnb137 := NB633_595.out
                          have hnc137 := NB595_633.out
                          have hnb138 := NB633_601.out
                          have hnc138 := NB601_633.out
                          have hnb139 := NB633_608.out
                          have hnc139 := NB608_633.out
                          have hcz140_0 : w117.cell? ⟨gb633, 0, none⟩ = some (.int .i64 0) := (blk_cell BK633.out 0).trans rfl
                          have hcz140_1 : w117.cell? ⟨gb633, 1, none⟩ = some (.int .i64 0) := (blk_cell BK633.out 1).trans rfl
                          have hcz140_2 : w117.cell? ⟨gb633, 2, none⟩ = some (.slice none 0 0) := (blk_cell BK633.out 2).trans rfl
                          have hfz140_0 := blk_frozen BK633.out 0
                          have hfz140_1 := blk_frozen BK633.out 1
                          have hfz140_2 := blk_frozen BK633.out 2
                          have hnb141 := NB595_582.out
                          have hnc141 := NB582_595.out
                          have hnb142 := NB595_601.out
                          have hnc142 := NB601_595.out
                          have hnb143 := NB595_608.out
                          have hnc143 := NB608_595.out
                          have hcz144_0 : w117.cell? ⟨gb595, 0, none⟩ = some (.int .i64 t589) := (blk_cell BK595.out 0).trans rfl
                          have hcz144_1 : w117.cell? ⟨gb595, 1, none⟩ = some (.int .i64 t590) := (blk_cell BK595.out 1).trans rfl
                          have hcz144_2 : w117.cell? ⟨gb595, 2, none⟩ = some (.slice Ao22 t591.length co22) := (blk_cell BK595.out 2).trans rfl
                          have hfz144_0 := blk_frozen BK595.out 0
                          have hfz144_1 := blk_frozen BK595.out 1
                          have hfz144_2 := blk_frozen BK595.out 2
                          go_wp2_with (first | ((with_reducible refine gate_callee (f := 16) rfl ?_); refine goesL_ (some 81) rfl rfl Try.func16 (by kernel_rfl) rfl #[.agg #[.int .i64 t627, .int .i64 t628, .slice Ao123 t629.length co123], .agg #[.int .i64 t589, .int .i64 t590, .slice Ao22 t591.length co22]] rfl (by (try simp only [List.map_toArray, List.map_cons, List.map_nil]); first | done | rfl | (simp only [List.length_drop, List.length_take]; rfl)) ?_; (with_reducible refine (laws_eqChart.calls kj59 t627 t628 _ _ t629 t589 t590 _ _ t591 false _ ?side1 ?side2 ?side3 ?side4 A124.out).mono ?_); (case side1 => refine (Kd.R_reads' (e := 3) (base := w.heap.size) (ok := fun k_ => ((((True ∧ some k_ ≠ (.slice Ao22 t591.length co22 : Value).ownBlock) ∧ some k_ ≠ (.slice Ao29 t617.length co29 : Value).ownBlock) ∧ some k_ ≠ (.slice Ao36 t604.length co36 : Value).ownBlock) ∧ some k_ ≠ (.slice Ao115 t624.length co115 : Value).ownBlock)) (n := t629.length) (c := co123) ?_).2.2; exact (by (with_reducible repeat (first | apply Kd.R_alloc | apply Kd.R_drewN | apply Kd.R_drew)); exact (Kd.R_mono (Kd.R_far (p := ⟨gb633, 2, none⟩) (Kd.R_far (p := ⟨gb633, 1, none⟩) (Kd.R_far (p := ⟨gb633, 0, none⟩) (Kd.R_types HO631.out BK633.out (by decide)) (fun _ hk => hk.2) (.int .i64 t627)) (fun _ hk => hk.2) (.int .i64 t628)) (fun _ hk => hk.2) (.slice Ao123 t629.length co123)) (fun _ h_ => h_.1)))); (case side2 => exact (Kd.R_reads' HO631.out).2.1); (case side3 => refine (Kd.R_reads' (e := 3) (base := w.heap.size) (ok := fun k_ => (((some k_ ≠ (.slice Ao29 t617.length co29 : Value).ownBlock ∧ some k_ ≠ (.slice Ao36 t604.length co36 : Value).ownBlock) ∧ some k_ ≠ (.slice Ao115 t624.length co115 : Value).ownBlock) ∧ some k_ ≠ (.slice Ao123 t629.length co123 : Value).ownBlock)) (n := t591.length) (c := co22) ?_).2.2; exact (by (with_reducible repeat (first | apply Kd.R_alloc | apply Kd.R_drewN | apply Kd.R_drew)); exact (Kd.R_mono (Kd.R_far (p := ⟨gb633, 2, none⟩) (Kd.R_far (p := ⟨gb633, 1, none⟩) (Kd.R_far (p := ⟨gb633, 0, none⟩) (Kd.R_types HO_596002.out BK633.out (by decide)) (fun _ hk => hk.2) (.int .i64 t627)) (fun _ hk => hk.2) (.int .i64 t628)) (fun _ hk => hk.2) (.slice Ao123 t629.length co123)) (fun _ h_ => h_.1)))); (case side4 => exact (Kd.R_reads' HO_596002.out).2.1); rintro e w145 ⟨rfl, hb⟩; refine ⟨_, rfl, ?_⟩; have n0_ := Aside0.mk (Kd.R_below (by (with_reducible repeat (first | apply Kd.R_alloc | apply Kd.R_drewN | apply Kd.R_drew)); exact (Kd.R_mono (Kd.R_far (p := ⟨gb633, 2, none⟩) (Kd.R_far (p := ⟨gb633, 1, none⟩) (Kd.R_far (p := ⟨gb633, 0, none⟩) (Kd.R_types HO_596002.out BK633.out (by decide)) (fun _ hk => hk.2) (.int .i64 t627)) (fun _ hk => hk.2) (.int .i64 t628)) (fun _ hk => hk.2) (.slice Ao123 t629.length co123)) (fun _ h_ => h_.1))) hb); have n1_ := Aside0.mk (Kd.R_below (by (with_reducible repeat (first | apply Kd.R_alloc | apply Kd.R_drewN | apply Kd.R_drew)); exact (Kd.R_mono (Kd.R_far (p := ⟨gb633, 2, none⟩) (Kd.R_far (p := ⟨gb633, 1, none⟩) (Kd.R_far (p := ⟨gb633, 0, none⟩) (Kd.R_types HO_602002.out BK633.out (by decide)) (fun _ hk => hk.2) (.int .i64 t627)) (fun _ hk => hk.2) (.int .i64 t628)) (fun _ hk => hk.2) (.slice Ao123 t629.length co123)) (fun _ h_ => h_.1))) hb); have n2_ := Aside0.mk (Kd.R_below (by (with_reducible repeat (first | apply Kd.R_alloc | apply Kd.R_drewN | apply Kd.R_drew)); exact (Kd.R_mono (Kd.R_far (p := ⟨gb633, 2, none⟩) (Kd.R_far (p := ⟨gb633, 1, none⟩) (Kd.R_far (p := ⟨gb633, 0, none⟩) (Kd.R_types HO_609002.out BK633.out (by decide)) (fun _ hk => hk.2) (.int .i64 t627)) (fun _ hk => hk.2) (.int .i64 t628)) (fun _ hk => hk.2) (.slice Ao123 t629.length co123)) (fun _ h_ => h_.1))) hb); have n3_ := Aside0.mk (Kd.R_below (by (with_reducible repeat (first | apply Kd.R_alloc | apply Kd.R_drewN | apply Kd.R_drew)); exact (Kd.R_mono (Kd.R_far (p := ⟨gb633, 2, none⟩) (Kd.R_far (p := ⟨gb633, 1, none⟩) (Kd.R_far (p := ⟨gb633, 0, none⟩) (Kd.R_types HO626.out BK633.out (by decide)) (fun _ hk => hk.2) (.int .i64 t627)) (fun _ hk => hk.2) (.int .i64 t628)) (fun _ hk => hk.2) (.slice Ao123 t629.length co123)) (fun _ h_ => h_.1))) hb); have n4_ := Aside0.mk (Kd.R_below (by (with_reducible repeat (first | apply Kd.R_alloc | apply Kd.R_drewN | apply Kd.R_drew)); exact (Kd.R_mono (Kd.R_far (p := ⟨gb633, 2, none⟩) (Kd.R_far (p := ⟨gb633, 1, none⟩) (Kd.R_far (p := ⟨gb633, 0, none⟩) (Kd.R_types HO631.out BK633.out (by decide)) (fun _ hk => hk.2) (.int .i64 t627)) (fun _ hk => hk.2) (.int .i64 t628)) (fun _ hk => hk.2) (.slice Ao123 t629.length co123)) (fun _ h_ => h_.1))) hb); have n5_ := Aside0.mk (blk_below (g := gb582) (o := .cells #[.int .i64 a0_0, .int .i64 a0_1, .slice A0_2 l0_2.length c0_2] 30 (0, 0)) (by (with_reducible repeat (first | refine blk_drewN ?_ _ | refine blk_drew ?_ | refine blk_alloc ?_ _)); refine blk_far ?_ NB582_633.out _; (with_reducible repeat (first | refine blk_drewN ?_ _ | refine blk_drew ?_ | refine blk_alloc ?_ _)); refine blk_far ?_ NB582_633.out _; (with_reducible repeat (first | refine blk_drewN ?_ _ | refine blk_drew ?_ | refine blk_alloc ?_ _)); refine blk_far ?_ NB582_633.out _; (with_reducible repeat (first | refine blk_drewN ?_ _ | refine blk_drew ?_ | refine blk_alloc ?_ _)); exact BK582.out) hb); have n6_ := Aside0.mk (blk_below (g := gb595) (o := .cells #[.int .i64 t589, .int .i64 t590, .slice Ao22 t591.length co22] 24 (0, 0)) (by (with_reducible repeat (first | refine blk_drewN ?_ _ | refine blk_drew ?_ | refine blk_alloc ?_ _)); refine blk_far ?_ NB595_633.out _; (with_reducible repeat (first | refine blk_drewN ?_ _ | refine blk_drew ?_ | refine blk_alloc ?_ _)); refine blk_far ?_ NB595_633.out _; (with_reducible repeat (first | refine blk_drewN ?_ _ | refine blk_drew ?_ | refine blk_alloc ?_ _)); refine blk_far ?_ NB595_633.out _; (with_reducible repeat (first | refine blk_drewN ?_ _ | refine blk_drew ?_ | refine blk_alloc ?_ _)); exact BK595.out) hb); have n7_ := Aside0.mk (blk_below (g := gb601) (o := .cells #[.int .i64 t596, .int .i64 t597, .slice Ao29 t617.length co29] 24 (0, 0)) (by (with_reducible repeat (first | refine blk_drewN ?_ _ | refine blk_drew ?_ | refine blk_alloc ?_ _)); refine blk_far ?_ NB601_633.out _; (with_reducible repeat (first | refine blk_drewN ?_ _ | refine blk_drew ?_ | refine blk_alloc ?_ _)); refine blk_far ?_ NB601_633.out _; (with_reducible repeat (first | refine blk_drewN ?_ _ | refine blk_drew ?_ | refine blk_alloc ?_ _)); refine blk_far ?_ NB601_633.out _; (with_reducible repeat (first | refine blk_drewN ?_ _ | refine blk_drew ?_ | refine blk_alloc ?_ _)); exact BK601.out) hb); have n8_ := Aside0.mk (blk_below (g := gb608) (o := .cells #[.int .i64 t602, .int .i64 t603, .slice Ao36 t604.length co36] 24 (0, 0)) (by (with_reducible repeat (first | refine blk_drewN ?_ _ | refine blk_drew ?_ | refine blk_alloc ?_ _)); refine blk_far ?_ NB608_633.out _; (with_reducible repeat (first | refine blk_drewN ?_ _ | refine blk_drew ?_ | refine blk_alloc ?_ _)); refine blk_far ?_ NB608_633.out _; (with_reducible repeat (first | refine blk_drewN ?_ _ | refine blk_drew ?_ | refine blk_alloc ?_ _)); refine blk_far ?_ NB608_633.out _; (with_reducible repeat (first | refine blk_drewN ?_ _ | refine blk_drew ?_ | refine blk_alloc ?_ _)); exact BK608.out) hb); have n9_ := Aside0.mk (blk_below (g := gb633) (o := .cells #[.int .i64 t627, .int .i64 t628, .slice Ao123 t629.length co123] 24 (0, 0)) (by (with_reducible repeat (first | refine blk_drewN ?_ _ | refine blk_drew ?_ | refine blk_alloc ?_ _)); refine blk_put (cs := #[.int .i64 t627, .int .i64 t628, .slice none 0 0]) ?_ 2 _ rfl; (with_reducible repeat (first | refine blk_drewN ?_ _ | refine blk_drew ?_ | refine blk_alloc ?_ _)); refine blk_put (cs := #[.int .i64 t627, .int .i64 0, .slice none 0 0]) ?_ 1 _ rfl; (with_reducible repeat (first | refine blk_drewN ?_ _ | refine blk_drew ?_ | refine blk_alloc ?_ _)); refine blk_put (cs := #[.int .i64 0, .int .i64 0, .slice none 0 0]) ?_ 0 _ rfl; (with_reducible repeat (first | refine blk_drewN ?_ _ | refine blk_drew ?_ | refine blk_alloc ?_ _)); exact BK633.out) hb); have n10_ := Aside0.mk (below_step (by repeat (first | (with_reducible first | exact HB.out | apply below_alloc | apply pw_below_drewN | apply below_drew1 | refine below_set ?_ GE582.out | refine below_set ?_ GE595.out | refine below_set ?_ GE601.out | refine below_set ?_ GE608.out | refine below_set ?_ GE633.out) | exact HB.out)) hb); clear HO_596002; clear HO_602002; clear HO_609002; clear HO626; clear HO631; clear BK582; clear BK595; clear BK601; clear BK608; clear BK633; clear HB; have HO_596002 := n0_; have HO_602002 := n1_; have HO_609002 := n2_; have HO626 := n3_; have HO631 := n4_; have BK582 := n5_; have BK595 := n6_; have BK601 := n7_; have BK608 := n8_; have BK633 := n9_; have HB := n10_; clear n0_ n1_ n2_ n3_ n4_ n5_ n6_ n7_ n8_ n9_ n10_; (try clear hb); (try clear hb2); (try clear hk); (try clear hi)))
                          go_meet
                          case rel => exact ⟨_, (true), (by first | rfl | (simp; done) | (simp [*]; done)), H', ⟨by have := HJ10.out; have := HJ59.out; first | omega | exact Nat.le_refl _⟩, ⟨by (try simp only [hl602002_59]); (with_reducible repeat (first | apply Kd.R_alloc | apply Kd.R_drewN | apply Kd.R_drew)); exact Kd.R_mono HO_596002.out (fun _ hk => ⟨hk.1.1.1, ⟨hk.1.1.2, hk.2⟩⟩)⟩, ⟨by (try simp only [hl602002_59]); (with_reducible repeat (first | apply Kd.R_alloc | apply Kd.R_drewN | apply Kd.R_drew)); exact Kd.R_mono HO_602002.out (fun _ hk => ⟨hk.1.1.1, ⟨hk.1.1.2, hk.2⟩⟩)⟩, ⟨by (try simp only [hl602002_59]); (with_reducible repeat (first | apply Kd.R_alloc | apply Kd.R_drewN | apply Kd.R_drew)); exact Kd.R_mono HO_609002.out (fun _ hk => ⟨hk.1.1.1, ⟨hk.1.1.2, hk.2⟩⟩)⟩, ⟨by (try simp only [hl602002_59]); (with_reducible repeat (first | apply Kd.R_alloc | apply Kd.R_drewN | apply Kd.R_drew)); exact Kd.R_mono HO631.out (fun _ hk => ⟨hk.1.1.1.2, ⟨hk.1.1.2, hk.1.2⟩⟩)⟩, ⟨by (try simp only [hl602002_59]); (with_reducible repeat (first | refine blk_drewN ?_ _ | refine blk_drew ?_ | refine blk_alloc ?_ _)); exact BK582.out⟩, ⟨by (try simp only [hl602002_59]); (with_reducible repeat (first | refine blk_drewN ?_ _ | refine blk_drew ?_ | refine blk_alloc ?_ _)); exact BK595.out⟩, ⟨by (try simp only [hl602002_59]); (with_reducible repeat (first | refine blk_drewN ?_ _ | refine blk_drew ?_ | refine blk_alloc ?_ _)); exact BK601.out⟩, ⟨by (try simp only [hl602002_59]); (with_reducible repeat (first | refine blk_drewN ?_ _ | refine blk_drew ?_ | refine blk_alloc ?_ _)); exact BK608.out⟩, ⟨by (try simp only [hl602002_59]); (with_reducible repeat (first | refine blk_drewN ?_ _ | refine blk_drew ?_ | refine blk_alloc ?_ _)); exact BK633.out⟩, ⟨by repeat (first | (with_reducible first | exact HB.out | apply below_alloc | apply pw_below_drewN | apply below_drew1 | refine below_set ?_ GE582.out | refine below_set ?_ GE595.out | refine below_set ?_ GE601.out | refine below_set ?_ GE608.out | refine below_set ?_ GE633.out) | exact HB.out)⟩⟩
                      case rest =>
                        clear HC103
                        try clear c1
                        try clear c2
                        try clear p2
                        try clear c3
                        try clear c3b0
                        try clear c4
                        try clear c5
                        try clear c6
                        try clear c7
                        try clear c8
                        try clear c9
                        try clear c10
                        try clear c11
                        try clear c12
                        try clear c13
                        try clear c14
                        try clear c16
                        try clear c17
                        try clear c18
                        try clear c19
                        try clear c20
                        try clear c21
                        try clear c26
                        try clear c27
                        try clear c32
                        try clear c33
                        try clear c34
                        try clear c38
                        try clear c39
                        try clear c40
                        try clear c41
                        try clear c43
                        try clear c44
                        try clear c47
                        try clear c48
                        try clear c49
                        try clear c51
                        try clear c52
                        try clear c55
                        try clear c58
                        try clear c65
                        try clear c66
                        try clear c67
                        try clear c70
                        try clear c70b0
                        try clear c72
                        try clear c73
                        try clear c74
                        try clear c75
                        try clear c77
                        try clear c78
                        try clear c81
                        try clear c82
                        try clear c83
                        try clear c85
                        try clear c86
                        try clear c89
                        try clear c92
                        try clear c92b0
                        try clear c93
                        try clear c94
                        try clear c95
                        try clear c100
                        try clear c100b0
                        try clear c100b1
                        try clear c104
                        try clear c105
                        try clear c106
                        try clear c111
                        try clear c112
                        try clear c118
                        try clear c119
                        try clear c120
                        try clear c121
                        try clear c125
                        try clear c126
                        try clear c127
                        try clear c128
                        try clear c129
                        try clear c131
                        try clear c132
                        try clear c133
                        try clear c136
                        try clear c137
                        try clear c138
                        try clear c139
                        try clear c141
                        try clear c142
                        try clear c143
                        try clear hcz107_0
                        try clear hcz107_1
                        try clear hcz107_2
                        try clear hcz109_0
                        try clear hcz109_1
                        try clear hcz109_2
                        try clear hcz113_0
                        try clear hcz113_1
                        try clear hcz113_2
                        try clear hcz122_0
                        try clear hcz122_1
                        try clear hcz122_2
                        try clear hcz130_0
                        try clear hcz130_1
                        try clear hcz130_2
                        try clear hcz134_0
                        try clear hcz134_1
                        try clear hcz134_2
                        try clear hcz13_0
                        try clear hcz13_1
                        try clear hcz13_2
                        try clear hcz140_0
                        try clear hcz140_1
                        try clear hcz140_2
                        try clear hcz144_0
                        try clear hcz144_1
                        try clear hcz144_2
                        try clear hcz15_0
                        try clear hcz15_1
                        try clear hcz15_2
                        try clear hcz21_0
                        try clear hcz21_1
                        try clear hcz21_2
                        try clear hcz23_0
                        try clear hcz23_1
                        try clear hcz23_2
                        try clear hcz28_0
                        try clear hcz28_1
                        try clear hcz28_2
                        try clear hcz35_0
                        try clear hcz35_1
                        try clear hcz35_2
                        try clear hcz42_0
                        try clear hcz42_1
                        try clear hcz42_2
                        try clear hcz45_0
                        try clear hcz45_1
                        try clear hcz45_2
                        try clear hcz50_0
                        try clear hcz50_1
                        try clear hcz50_2
                        try clear hcz53_0
                        try clear hcz53_1
                        try clear hcz53_2
                        try clear hcz5_0
                        try clear hcz5_1
                        try clear hcz5_2
                        try clear hcz68_0
                        try clear hcz68_1
                        try clear hcz68_2
                        try clear hcz76_0
                        try clear hcz76_1
                        try clear hcz76_2
                        try clear hcz79_0
                        try clear hcz79_1
                        try clear hcz79_2
                        try clear hcz84_0
                        try clear hcz84_1
                        try clear hcz84_2
                        try clear hcz87_0
                        try clear hcz87_1
                        try clear hcz87_2
                        try clear hcz96_0
                        try clear hcz96_1
                        try clear hcz96_2
                        try clear hcz98_0
                        try clear hcz98_1
                        try clear hcz98_2
                        try clear hfz107_0
                        try clear hfz107_1
                        try clear hfz107_2
                        try clear hfz109_0
                        try clear hfz109_1
                        try clear hfz109_2
                        try clear hfz113_0
                        try clear hfz113_1
                        try clear hfz113_2
                        try clear hfz122_0
                        try clear hfz122_1
                        try clear hfz122_2
                        try clear hfz130_0
                        try clear hfz130_1
                        try clear hfz130_2
                        try clear hfz134_0
                        try clear hfz134_1
                        try clear hfz134_2
                        try clear hfz13_0
                        try clear hfz13_1
                        try clear hfz13_2
                        try clear hfz140_0
                        try clear hfz140_1
                        try clear hfz140_2
                        try clear hfz144_0
                        try clear hfz144_1
                        try clear hfz144_2
                        try clear hfz15_0
                        try clear hfz15_1
                        try clear hfz15_2
                        try clear hfz21_0
                        try clear hfz21_1
                        try clear hfz21_2
                        try clear hfz23_0
                        try clear hfz23_1
                        try clear hfz23_2
                        try clear hfz28_0
                        try clear hfz28_1
                        try clear hfz28_2
                        try clear hfz35_0
                        try clear hfz35_1
                        try clear hfz35_2
                        try clear hfz42_0
                        try clear hfz42_1
                        try clear hfz42_2
                        try clear hfz45_0
                        try clear hfz45_1
                        try clear hfz45_2
                        try clear hfz50_0
                        try clear hfz50_1
                        try clear hfz50_2
                        try clear hfz53_0
                        try clear hfz53_1
                        try clear hfz53_2
                        try clear hfz5_0
                        try clear hfz5_1
                        try clear hfz5_2
                        try clear hfz68_0
                        try clear hfz68_1
                        try clear hfz68_2
                        try clear hfz76_0
                        try clear hfz76_1
                        try clear hfz76_2
                        try clear hfz79_0
                        try clear hfz79_1
                        try clear hfz79_2
                        try clear hfz84_0
                        try clear hfz84_1
                        try clear hfz84_2
                        try clear hfz87_0
                        try clear hfz87_1
                        try clear hfz87_2
                        try clear hfz96_0
                        try clear hfz96_1
                        try clear hfz96_2
                        try clear hfz98_0
                        try clear hfz98_1
                        try clear hfz98_2
                        try clear p2
                        obtain ⟨kq, x87_102, rfl, HA, HJ102, HO_596002, HO_602002, HO_609002, HO_634002, BK582, BK595, BK601, BK608, BK633, HB⟩ := hcut
                        have hl609002_102 := (Kd.R_reads' HO_609002.out).1
                        rw [hl609002_102] at HO_609002
                        (try simp only [hl609002_102])
                        (try simp only [hl609002_102] at BK582)
                        (try simp only [hl609002_102] at BK595)
                        (try simp only [hl609002_102] at BK601)
                        (try simp only [hl609002_102] at BK608)
                        (try simp only [hl609002_102] at BK633)
                        (try simp only [hl609002_102] at HO_596002)
                        (try simp only [hl609002_102] at HO_602002)
                        (try simp only [hl609002_102] at HO_634002)
                        cases kq with
                        | zero => exact absurd HA.out (by simp [laws_FnExactStripBorder.j2])
                        | succ kj102 =>
                          have H := HA.out
                          clear HA
                          simp only [laws_FnExactStripBorder.j2] at H
                          by_cases c146 : x87_102 = true
                          · subst c146
                            have H1 : (some false) = some r := by rw [if_pos rfl] at H; exact H
                            clear H
                            have H := H1
                            clear H1
                            obtain rfl := Option.some.inj H
                            go_wp2
                            go_ret
                            exact ⟨by first | rfl | (simp [errW_none, errW_some] <;> rfl) | (simp [*, errW_none, errW_some] <;> rfl), by repeat (first | (with_reducible first | exact HB.out | apply below_alloc | apply pw_below_drewN | apply below_drew1 | refine below_set ?_ GE582.out | refine below_set ?_ GE595.out | refine below_set ?_ GE601.out | refine below_set ?_ GE608.out | refine below_set ?_ GE633.out) | exact HB.out)⟩
                          · replace c146 := Bool.eq_false_iff.mpr c146
                            subst c146
                            have H1 : ((laws_heldChart.f kj102 t602 t603 t620 1).bind fun t635 => (if t635 < 0 then (some false) else (if t635 = t619 then (some true) else (some false)))) = some r := by rw [if_neg (show ¬ (false = true) by decide)] at H; exact H
                            clear H
                            have H := H1
                            clear H1
                            replace H := Option.bind_eq_some_iff.mp H
                            obtain ⟨t635, A1470, H⟩ := H
                            replace H : (if t635 < 0 then (some false) else (if t635 = t619 then (some true) else (some false))) = some r := H
                            have A147 := Aside0.mk A1470
                            clear A1470
                            by_cases c148 : t635 < 0
                            · rw [if_pos c148] at H
                              have c148b0 : decide (t635 < 0) = true := decide_eq_true c148
                              clear c148
                              obtain rfl := Option.some.inj H
                              have hnb149 := NB608_582.out
                              have hnc149 := NB582_608.out
                              have hnb150 := NB608_595.out
                              have hnc150 := NB595_608.out
                              have hnb151 := NB608_601.out
                              have hnc151 := NB601_608.out
                              have hnb152 := NB608_633.out
                              have hnc152 := NB633_608.out
                              have hcz153_0 : wc.cell? ⟨gb608, 0, none⟩ = some (.int .i64 t602) := (blk_cell BK608.out 0).trans rfl
                              have hcz153_1 : wc.cell? ⟨gb608, 1, none⟩ = some (.int .i64 t603) := (blk_cell BK608.out 1).trans rfl
                              have hcz153_2 : wc.cell? ⟨gb608, 2, none⟩ = some (.slice Ao36 t620.length co36) := (blk_cell BK608.out 2).trans rfl
                              have hfz153_0 := blk_frozen BK608.out 0
                              have hfz153_1 := blk_frozen BK608.out 1
                              have hfz153_2 := blk_frozen BK608.out 2
                              go_wp2_with (first | ((with_reducible refine gate_callee (f := 18) rfl ?_); refine goesL_ (some 90) rfl rfl Try.func18 (by kernel_rfl) rfl #[.agg #[.int .i64 t602, .int .i64 t603, .slice Ao36 t620.length co36], .int .i64 1] rfl (by (try simp only [List.map_toArray, List.map_cons, List.map_nil]); first | done | rfl | (simp only [List.length_drop, List.length_take]; rfl)) ?_; (with_reducible refine (laws_heldChart.calls kj102 t602 t603 _ _ t620 1 t635 _ ?side1 ?side2 A147.out).mono ?_); (case side1 => repeat (first | exact (Kd.R_reads' HO_609002.out).2.2 | (with_reducible refine Kd.C_alloc ?_ _) | (with_reducible refine Kd.C_drewN ?_ _) | (with_reducible refine Kd.C_drew ?_))); (case side2 => exact (Kd.R_reads' HO_609002.out).2.1); rintro e w154 ⟨rfl, hb⟩; refine ⟨_, rfl, ?_⟩; have n0_ := Aside0.mk (Kd.R_below (by (with_reducible repeat (first | apply Kd.R_alloc | apply Kd.R_drewN | apply Kd.R_drew)); exact HO_596002.out) hb); have n1_ := Aside0.mk (Kd.R_below (by (with_reducible repeat (first | apply Kd.R_alloc | apply Kd.R_drewN | apply Kd.R_drew)); exact HO_602002.out) hb); have n2_ := Aside0.mk (Kd.R_below (by (with_reducible repeat (first | apply Kd.R_alloc | apply Kd.R_drewN | apply Kd.R_drew)); exact HO_609002.out) hb); have n3_ := Aside0.mk (Kd.R_below (by (with_reducible repeat (first | apply Kd.R_alloc | apply Kd.R_drewN | apply Kd.R_drew)); exact HO_634002.out) hb); have n4_ := Aside0.mk (blk_below (g := gb582) (o := .cells #[.int .i64 a0_0, .int .i64 a0_1, .slice A0_2 l0_2.length c0_2] 30 (0, 0)) (by (with_reducible repeat (first | refine blk_drewN ?_ _ | refine blk_drew ?_ | refine blk_alloc ?_ _)); exact BK582.out) hb); have n5_ := Aside0.mk (blk_below (g := gb595) (o := .cells #[.int .i64 t589, .int .i64 t590, .slice Ao22 t591.length co22] 24 (0, 0)) (by (with_reducible repeat (first | refine blk_drewN ?_ _ | refine blk_drew ?_ | refine blk_alloc ?_ _)); exact BK595.out) hb); have n6_ := Aside0.mk (blk_below (g := gb601) (o := .cells #[.int .i64 t596, .int .i64 t597, .slice Ao29 t617.length co29] 24 (0, 0)) (by (with_reducible repeat (first | refine blk_drewN ?_ _ | refine blk_drew ?_ | refine blk_alloc ?_ _)); exact BK601.out) hb); have n7_ := Aside0.mk (blk_below (g := gb608) (o := .cells #[.int .i64 t602, .int .i64 t603, .slice Ao36 t620.length co36] 24 (0, 0)) (by (with_reducible repeat (first | refine blk_drewN ?_ _ | refine blk_drew ?_ | refine blk_alloc ?_ _)); exact BK608.out) hb); have n8_ := Aside0.mk (blk_below (g := gb633) (o := .cells #[.int .i64 t627, .int .i64 t628, .slice Ao123 t629.length co123] 24 (0, 0)) (by (with_reducible repeat (first | refine blk_drewN ?_ _ | refine blk_drew ?_ | refine blk_alloc ?_ _)); exact BK633.out) hb); have n9_ := Aside0.mk (below_step (by repeat (first | (with_reducible first | exact HB.out | apply below_alloc | apply pw_below_drewN | apply below_drew1 | refine below_set ?_ GE582.out | refine below_set ?_ GE595.out | refine below_set ?_ GE601.out | refine below_set ?_ GE608.out | refine below_set ?_ GE633.out) | exact HB.out)) hb); clear HO_596002; clear HO_602002; clear HO_609002; clear HO_634002; clear BK582; clear BK595; clear BK601; clear BK608; clear BK633; clear HB; have HO_596002 := n0_; have HO_602002 := n1_; have HO_609002 := n2_; have HO_634002 := n3_; have BK582 := n4_; have BK595 := n5_; have BK601 := n6_; have BK608 := n7_; have BK633 := n8_; have HB := n9_; clear n0_ n1_ n2_ n3_ n4_ n5_ n6_ n7_ n8_ n9_; (try clear hb); (try clear hb2); (try clear hk); (try clear hi)))
                              go_ret
                              exact ⟨by first | rfl | (simp [errW_none, errW_some] <;> rfl) | (simp [*, errW_none, errW_some] <;> rfl), by repeat (first | (with_reducible first | exact HB.out | apply below_alloc | apply pw_below_drewN | apply below_drew1 | refine below_set ?_ GE582.out | refine below_set ?_ GE595.out | refine below_set ?_ GE601.out | refine below_set ?_ GE608.out | refine below_set ?_ GE633.out) | exact HB.out)⟩
                            · rw [if_neg c148] at H
                              have c148b0 : decide (t635 < 0) = false := decide_eq_false c148
                              clear c148
                              by_cases c155 : t635 = t619
                              · rw [if_pos c155] at H
                                have c155b0 : (t635 == t619) = true := beq_iff_eq.mpr c155
                                have c155b1 : (t635 != t619) = false := bne_eq_false_iff_eq.mpr c155
                                clear c155
                                obtain rfl := Option.some.inj H
                                have hnb156 := NB608_582.out
                                have hnc156 := NB582_608.out
                                have hnb157 := NB608_595.out
                                have hnc157 := NB595_608.out
                                have hnb158 := NB608_601.out
                                have hnc158 := NB601_608.out
                                have hnb159 := NB608_633.out
                                have hnc159 := NB633_608.out
                                have hcz160_0 : wc.cell? ⟨gb608, 0, none⟩ = some (.int .i64 t602) := (blk_cell BK608.out 0).trans rfl
                                have hcz160_1 : wc.cell? ⟨gb608, 1, none⟩ = some (.int .i64 t603) := (blk_cell BK608.out 1).trans rfl
                                have hcz160_2 : wc.cell? ⟨gb608, 2, none⟩ = some (.slice Ao36 t620.length co36) := (blk_cell BK608.out 2).trans rfl
                                have hfz160_0 := blk_frozen BK608.out 0
                                have hfz160_1 := blk_frozen BK608.out 1
                                have hfz160_2 := blk_frozen BK608.out 2
                                go_wp2_with (first | ((with_reducible refine gate_callee (f := 18) rfl ?_); refine goesL_ (some 90) rfl rfl Try.func18 (by kernel_rfl) rfl #[.agg #[.int .i64 t602, .int .i64 t603, .slice Ao36 t620.length co36], .int .i64 1] rfl (by (try simp only [List.map_toArray, List.map_cons, List.map_nil]); first | done | rfl | (simp only [List.length_drop, List.length_take]; rfl)) ?_; (with_reducible refine (laws_heldChart.calls kj102 t602 t603 _ _ t620 1 t635 _ ?side1 ?side2 A147.out).mono ?_); (case side1 => repeat (first | exact (Kd.R_reads' HO_609002.out).2.2 | (with_reducible refine Kd.C_alloc ?_ _) | (with_reducible refine Kd.C_drewN ?_ _) | (with_reducible refine Kd.C_drew ?_))); (case side2 => exact (Kd.R_reads' HO_609002.out).2.1); rintro e w161 ⟨rfl, hb⟩; refine ⟨_, rfl, ?_⟩; have n0_ := Aside0.mk (Kd.R_below (by (with_reducible repeat (first | apply Kd.R_alloc | apply Kd.R_drewN | apply Kd.R_drew)); exact HO_596002.out) hb); have n1_ := Aside0.mk (Kd.R_below (by (with_reducible repeat (first | apply Kd.R_alloc | apply Kd.R_drewN | apply Kd.R_drew)); exact HO_602002.out) hb); have n2_ := Aside0.mk (Kd.R_below (by (with_reducible repeat (first | apply Kd.R_alloc | apply Kd.R_drewN | apply Kd.R_drew)); exact HO_609002.out) hb); have n3_ := Aside0.mk (Kd.R_below (by (with_reducible repeat (first | apply Kd.R_alloc | apply Kd.R_drewN | apply Kd.R_drew)); exact HO_634002.out) hb); have n4_ := Aside0.mk (blk_below (g := gb582) (o := .cells #[.int .i64 a0_0, .int .i64 a0_1, .slice A0_2 l0_2.length c0_2] 30 (0, 0)) (by (with_reducible repeat (first | refine blk_drewN ?_ _ | refine blk_drew ?_ | refine blk_alloc ?_ _)); exact BK582.out) hb); have n5_ := Aside0.mk (blk_below (g := gb595) (o := .cells #[.int .i64 t589, .int .i64 t590, .slice Ao22 t591.length co22] 24 (0, 0)) (by (with_reducible repeat (first | refine blk_drewN ?_ _ | refine blk_drew ?_ | refine blk_alloc ?_ _)); exact BK595.out) hb); have n6_ := Aside0.mk (blk_below (g := gb601) (o := .cells #[.int .i64 t596, .int .i64 t597, .slice Ao29 t617.length co29] 24 (0, 0)) (by (with_reducible repeat (first | refine blk_drewN ?_ _ | refine blk_drew ?_ | refine blk_alloc ?_ _)); exact BK601.out) hb); have n7_ := Aside0.mk (blk_below (g := gb608) (o := .cells #[.int .i64 t602, .int .i64 t603, .slice Ao36 t620.length co36] 24 (0, 0)) (by (with_reducible repeat (first | refine blk_drewN ?_ _ | refine blk_drew ?_ | refine blk_alloc ?_ _)); exact BK608.out) hb); have n8_ := Aside0.mk (blk_below (g := gb633) (o := .cells #[.int .i64 t627, .int .i64 t628, .slice Ao123 t629.length co123] 24 (0, 0)) (by (with_reducible repeat (first | refine blk_drewN ?_ _ | refine blk_drew ?_ | refine blk_alloc ?_ _)); exact BK633.out) hb); have n9_ := Aside0.mk (below_step (by repeat (first | (with_reducible first | exact HB.out | apply below_alloc | apply pw_below_drewN | apply below_drew1 | refine below_set ?_ GE582.out | refine below_set ?_ GE595.out | refine below_set ?_ GE601.out | refine below_set ?_ GE608.out | refine below_set ?_ GE633.out) | exact HB.out)) hb); clear HO_596002; clear HO_602002; clear HO_609002; clear HO_634002; clear BK582; clear BK595; clear BK601; clear BK608; clear BK633; clear HB; have HO_596002 := n0_; have HO_602002 := n1_; have HO_609002 := n2_; have HO_634002 := n3_; have BK582 := n4_; have BK595 := n5_; have BK601 := n6_; have BK608 := n7_; have BK633 := n8_; have HB := n9_; clear n0_ n1_ n2_ n3_ n4_ n5_ n6_ n7_ n8_ n9_; (try clear hb); (try clear hb2); (try clear hk); (try clear hi)))
                                go_ret
                                exact ⟨by first | rfl | (simp [errW_none, errW_some] <;> rfl) | (simp [*, errW_none, errW_some] <;> rfl), by repeat (first | (with_reducible first | exact HB.out | apply below_alloc | apply pw_below_drewN | apply below_drew1 | refine below_set ?_ GE582.out | refine below_set ?_ GE595.out | refine below_set ?_ GE601.out | refine below_set ?_ GE608.out | refine below_set ?_ GE633.out) | exact HB.out)⟩
                              · rw [if_neg c155] at H
                                have c155b0 : (t635 == t619) = false := beq_eq_false_iff_ne.mpr c155
                                have c155b1 : (t635 != t619) = true := bne_iff_ne.mpr c155
                                obtain rfl := Option.some.inj H
                                have hnb162 := NB608_582.out
                                have hnc162 := NB582_608.out
                                have hnb163 := NB608_595.out
                                have hnc163 := NB595_608.out
                                have hnb164 := NB608_601.out
                                have hnc164 := NB601_608.out
                                have hnb165 := NB608_633.out
                                have hnc165 := NB633_608.out
                                have hcz166_0 : wc.cell? ⟨gb608, 0, none⟩ = some (.int .i64 t602) := (blk_cell BK608.out 0).trans rfl
                                have hcz166_1 : wc.cell? ⟨gb608, 1, none⟩ = some (.int .i64 t603) := (blk_cell BK608.out 1).trans rfl
                                have hcz166_2 : wc.cell? ⟨gb608, 2, none⟩ = some (.slice Ao36 t620.length co36) := (blk_cell BK608.out 2).trans rfl
                                have hfz166_0 := blk_frozen BK608.out 0
                                have hfz166_1 := blk_frozen BK608.out 1
                                have hfz166_2 := blk_frozen BK608.out 2
                                go_wp2_with (first | ((with_reducible refine gate_callee (f := 18) rfl ?_); refine goesL_ (some 90) rfl rfl Try.func18 (by kernel_rfl) rfl #[.agg #[.int .i64 t602, .int .i64 t603, .slice Ao36 t620.length co36], .int .i64 1] rfl (by (try simp only [List.map_toArray, List.map_cons, List.map_nil]); first | done | rfl | (simp only [List.length_drop, List.length_take]; rfl)) ?_; (with_reducible refine (laws_heldChart.calls kj102 t602 t603 _ _ t620 1 t635 _ ?side1 ?side2 A147.out).mono ?_); (case side1 => repeat (first | exact (Kd.R_reads' HO_609002.out).2.2 | (with_reducible refine Kd.C_alloc ?_ _) | (with_reducible refine Kd.C_drewN ?_ _) | (with_reducible refine Kd.C_drew ?_))); (case side2 => exact (Kd.R_reads' HO_609002.out).2.1); rintro e w167 ⟨rfl, hb⟩; refine ⟨_, rfl, ?_⟩; have n0_ := Aside0.mk (Kd.R_below (by (with_reducible repeat (first | apply Kd.R_alloc | apply Kd.R_drewN | apply Kd.R_drew)); exact HO_596002.out) hb); have n1_ := Aside0.mk (Kd.R_below (by (with_reducible repeat (first | apply Kd.R_alloc | apply Kd.R_drewN | apply Kd.R_drew)); exact HO_602002.out) hb); have n2_ := Aside0.mk (Kd.R_below (by (with_reducible repeat (first | apply Kd.R_alloc | apply Kd.R_drewN | apply Kd.R_drew)); exact HO_609002.out) hb); have n3_ := Aside0.mk (Kd.R_below (by (with_reducible repeat (first | apply Kd.R_alloc | apply Kd.R_drewN | apply Kd.R_drew)); exact HO_634002.out) hb); have n4_ := Aside0.mk (blk_below (g := gb582) (o := .cells #[.int .i64 a0_0, .int .i64 a0_1, .slice A0_2 l0_2.length c0_2] 30 (0, 0)) (by (with_reducible repeat (first | refine blk_drewN ?_ _ | refine blk_drew ?_ | refine blk_alloc ?_ _)); exact BK582.out) hb); have n5_ := Aside0.mk (blk_below (g := gb595) (o := .cells #[.int .i64 t589, .int .i64 t590, .slice Ao22 t591.length co22] 24 (0, 0)) (by (with_reducible repeat (first | refine blk_drewN ?_ _ | refine blk_drew ?_ | refine blk_alloc ?_ _)); exact BK595.out) hb); have n6_ := Aside0.mk (blk_below (g := gb601) (o := .cells #[.int .i64 t596, .int .i64 t597, .slice Ao29 t617.length co29] 24 (0, 0)) (by (with_reducible repeat (first | refine blk_drewN ?_ _ | refine blk_drew ?_ | refine blk_alloc ?_ _)); exact BK601.out) hb); have n7_ := Aside0.mk (blk_below (g := gb608) (o := .cells #[.int .i64 t602, .int .i64 t603, .slice Ao36 t620.length co36] 24 (0, 0)) (by (with_reducible repeat (first | refine blk_drewN ?_ _ | refine blk_drew ?_ | refine blk_alloc ?_ _)); exact BK608.out) hb); have n8_ := Aside0.mk (blk_below (g := gb633) (o := .cells #[.int .i64 t627, .int .i64 t628, .slice Ao123 t629.length co123] 24 (0, 0)) (by (with_reducible repeat (first | refine blk_drewN ?_ _ | refine blk_drew ?_ | refine blk_alloc ?_ _)); exact BK633.out) hb); have n9_ := Aside0.mk (below_step (by repeat (first | (with_reducible first | exact HB.out | apply below_alloc | apply pw_below_drewN | apply below_drew1 | refine below_set ?_ GE582.out | refine below_set ?_ GE595.out | refine below_set ?_ GE601.out | refine below_set ?_ GE608.out | refine below_set ?_ GE633.out) | exact HB.out)) hb); clear HO_596002; clear HO_602002; clear HO_609002; clear HO_634002; clear BK582; clear BK595; clear BK601; clear BK608; clear BK633; clear HB; have HO_596002 := n0_; have HO_602002 := n1_; have HO_609002 := n2_; have HO_634002 := n3_; have BK582 := n4_; have BK595 := n5_; have BK601 := n6_; have BK608 := n7_; have BK633 := n8_; have HB := n9_; clear n0_ n1_ n2_ n3_ n4_ n5_ n6_ n7_ n8_ n9_; (try clear hb); (try clear hb2); (try clear hk); (try clear hi)))
                                go_ret
                                exact ⟨by first | rfl | (simp [errW_none, errW_some] <;> rfl) | (simp [*, errW_none, errW_some] <;> rfl), by repeat (first | (with_reducible first | exact HB.out | apply below_alloc | apply pw_below_drewN | apply below_drew1 | refine below_set ?_ GE582.out | refine below_set ?_ GE595.out | refine below_set ?_ GE601.out | refine below_set ?_ GE608.out | refine below_set ?_ GE633.out) | exact HB.out)⟩
                    · rw [if_neg c100] at H
                      have c100b0 : (t621 == t619) = false := beq_eq_false_iff_ne.mpr c100
                      have c100b1 : (t621 != t619) = true := bne_iff_ne.mpr c100
                      obtain rfl := Option.some.inj H
                      have hnb168 := NB608_582.out
                      have hnc168 := NB582_608.out
                      have hnb169 := NB608_595.out
                      have hnc169 := NB595_608.out
                      have hnb170 := NB608_601.out
                      have hnc170 := NB601_608.out
                      have hcz171_0 : wc.cell? ⟨gb608, 0, none⟩ = some (.int .i64 t602) := (blk_cell BK608.out 0).trans rfl
                      have hcz171_1 : wc.cell? ⟨gb608, 1, none⟩ = some (.int .i64 t603) := (blk_cell BK608.out 1).trans rfl
                      have hcz171_2 : wc.cell? ⟨gb608, 2, none⟩ = some (.slice Ao36 t604.length co36) := (blk_cell BK608.out 2).trans rfl
                      have hfz171_0 := blk_frozen BK608.out 0
                      have hfz171_1 := blk_frozen BK608.out 1
                      have hfz171_2 := blk_frozen BK608.out 2
                      go_wp2_with (first | ((with_reducible refine gate_callee (f := 17) rfl ?_); refine goesL_ (some 64) rfl rfl Try.func17 (by kernel_rfl) rfl #[.agg #[.int .i64 t602, .int .i64 t603, .slice Ao36 t604.length co36], .int .i64 1] rfl (by (try simp only [List.map_toArray, List.map_cons, List.map_nil]); first | done | rfl | (simp only [List.length_drop, List.length_take]; rfl)) ?_; (with_reducible refine (laws_markChart.calls kj59 t602 t603 (fun k_ => some k_ = (.slice Ao36 t604.length co36 : Value).ownBlock) (.slice Ao36 t604.length co36) t604 1 t619 t620 w _ ?side1 ?side2 A90.out).mono ?_); (case side1 => repeat (first | (with_reducible first | exact HB.out | apply below_alloc | apply pw_below_drewN | apply below_drew1 | refine below_set ?_ GE582.out | refine below_set ?_ GE595.out | refine below_set ?_ GE601.out | refine below_set ?_ GE608.out) | exact HB.out)); (case side2 => exact Kd.R_tight rfl HO_609002.out); rintro e w172 ⟨rfl, hy0, hb, hkp⟩; refine ⟨_, rfl, ?_⟩; have n0_ := Aside0.mk (Kd.R_mono (ok' := fun k_ => some k_ ≠ (.slice Ao29 t617.length co29 : Value).ownBlock ∧ some k_ ≠ (.slice Ao36 t604.length co36 : Value).ownBlock) (Kd.R_keptB (HO_596002.out) hkp (fun k_ hk_ hs_ => (hk_.2) hs_)) (fun k_ hk_ => ⟨hk_.1.1, hk_.1.2⟩)); have n1_ := Aside0.mk (Kd.R_mono (ok' := fun k_ => some k_ ≠ (.slice Ao22 t591.length co22 : Value).ownBlock ∧ some k_ ≠ (.slice Ao36 t604.length co36 : Value).ownBlock) (Kd.R_keptB (HO_602002.out) hkp (fun k_ hk_ hs_ => (hk_.2) hs_)) (fun k_ hk_ => ⟨hk_.1.1, hk_.1.2⟩)); have n2_ := Aside0.mk (Kd.R_reok rfl hy0 (fun k_ e_ => HO_609002.out.1 k_ e_)); have n3_ := Aside0.mk (blk_kept (by (with_reducible repeat (first | refine blk_drewN ?_ _ | refine blk_drew ?_ | refine blk_alloc ?_ _)); exact BK582.out) hkp (fun hs_ => (fun e_ => (Kd.R_ne HO_609002.out BK582.out (by decide)) e_) hs_)); have n4_ := Aside0.mk (blk_kept (by (with_reducible repeat (first | refine blk_drewN ?_ _ | refine blk_drew ?_ | refine blk_alloc ?_ _)); exact BK595.out) hkp (fun hs_ => (fun e_ => (Kd.R_ne HO_609002.out BK595.out (by decide)) e_) hs_)); have n5_ := Aside0.mk (blk_kept (by (with_reducible repeat (first | refine blk_drewN ?_ _ | refine blk_drew ?_ | refine blk_alloc ?_ _)); exact BK601.out) hkp (fun hs_ => (fun e_ => (Kd.R_ne HO_609002.out BK601.out (by decide)) e_) hs_)); have n6_ := Aside0.mk (blk_kept (by (with_reducible repeat (first | refine blk_drewN ?_ _ | refine blk_drew ?_ | refine blk_alloc ?_ _)); exact BK608.out) hkp (fun hs_ => (fun e_ => (Kd.R_ne HO_609002.out BK608.out (by decide)) e_) hs_)); have n7_ := Aside0.mk (hb); clear HO_596002; clear HO_602002; clear HO_609002; clear BK582; clear BK595; clear BK601; clear BK608; clear HB; have HO_596002 := n0_; have HO_602002 := n1_; have HO_609002 := n2_; have BK582 := n3_; have BK595 := n4_; have BK601 := n5_; have BK608 := n6_; have HB := n7_; clear n0_ n1_ n2_ n3_ n4_ n5_ n6_ n7_; (try clear hb); (try clear hkp); (try clear hy0); have hcz173_0 : w172.cell? ⟨gb608, 0, none⟩ = some (.int .i64 t602) := (blk_cell BK608.out 0).trans rfl; have hcz173_1 : w172.cell? ⟨gb608, 1, none⟩ = some (.int .i64 t603) := (blk_cell BK608.out 1).trans rfl; have hcz173_2 : w172.cell? ⟨gb608, 2, none⟩ = some (.slice Ao36 t604.length co36) := (blk_cell BK608.out 2).trans rfl; have hfz173_0 := blk_frozen BK608.out 0; have hfz173_1 := blk_frozen BK608.out 1; have hfz173_2 := blk_frozen BK608.out 2) | ((with_reducible refine gate_callee (f := 18) rfl ?_); refine goesL_ (some 67) rfl rfl Try.func18 (by kernel_rfl) rfl #[.agg #[.int .i64 t602, .int .i64 t603, .slice Ao36 t620.length co36], .int .i64 1] rfl (by (try simp only [List.map_toArray, List.map_cons, List.map_nil]); first | done | (rw [show t620.length = t604.length from (Kd.R_reads' HO_609002.out).1.symm] <;> rfl) | rfl | (simp only [List.length_drop, List.length_take]; rfl)) ?_; (with_reducible refine (laws_heldChart.calls kj59 t602 t603 _ _ t620 1 t621 _ ?side1 ?side2 A91.out).mono ?_); (case side1 => repeat (first | exact (Kd.R_reads' HO_609002.out).2.2 | (with_reducible refine Kd.C_alloc ?_ _) | (with_reducible refine Kd.C_drewN ?_ _) | (with_reducible refine Kd.C_drew ?_))); (case side2 => rw [show t620.length = t604.length from (Kd.R_reads' HO_609002.out).1.symm]; exact (Kd.R_reads' HO_609002.out).2.1); rintro e w174 ⟨rfl, hb⟩; refine ⟨_, rfl, ?_⟩; have n0_ := Aside0.mk (Kd.R_below (by (with_reducible repeat (first | apply Kd.R_alloc | apply Kd.R_drewN | apply Kd.R_drew)); exact HO_596002.out) hb); have n1_ := Aside0.mk (Kd.R_below (by (with_reducible repeat (first | apply Kd.R_alloc | apply Kd.R_drewN | apply Kd.R_drew)); exact HO_602002.out) hb); have n2_ := Aside0.mk (Kd.R_below (by (with_reducible repeat (first | apply Kd.R_alloc | apply Kd.R_drewN | apply Kd.R_drew)); exact HO_609002.out) hb); have n3_ := Aside0.mk (blk_below (g := gb582) (o := .cells #[.int .i64 a0_0, .int .i64 a0_1, .slice A0_2 l0_2.length c0_2] 30 (0, 0)) (by (with_reducible repeat (first | refine blk_drewN ?_ _ | refine blk_drew ?_ | refine blk_alloc ?_ _)); exact BK582.out) hb); have n4_ := Aside0.mk (blk_below (g := gb595) (o := .cells #[.int .i64 t589, .int .i64 t590, .slice Ao22 t591.length co22] 24 (0, 0)) (by (with_reducible repeat (first | refine blk_drewN ?_ _ | refine blk_drew ?_ | refine blk_alloc ?_ _)); exact BK595.out) hb); have n5_ := Aside0.mk (blk_below (g := gb601) (o := .cells #[.int .i64 t596, .int .i64 t597, .slice Ao29 t617.length co29] 24 (0, 0)) (by (with_reducible repeat (first | refine blk_drewN ?_ _ | refine blk_drew ?_ | refine blk_alloc ?_ _)); exact BK601.out) hb); have n6_ := Aside0.mk (blk_below (g := gb608) (o := .cells #[.int .i64 t602, .int .i64 t603, .slice Ao36 t604.length co36] 24 (0, 0)) (by (with_reducible repeat (first | refine blk_drewN ?_ _ | refine blk_drew ?_ | refine blk_alloc ?_ _)); exact BK608.out) hb); have n7_ := Aside0.mk (below_step (by repeat (first | (with_reducible first | exact HB.out | apply below_alloc | apply pw_below_drewN | apply below_drew1 | refine below_set ?_ GE582.out | refine below_set ?_ GE595.out | refine below_set ?_ GE601.out | refine below_set ?_ GE608.out) | exact HB.out)) hb); clear HO_596002; clear HO_602002; clear HO_609002; clear BK582; clear BK595; clear BK601; clear BK608; clear HB; have HO_596002 := n0_; have HO_602002 := n1_; have HO_609002 := n2_; have BK582 := n3_; have BK595 := n4_; have BK601 := n5_; have BK608 := n6_; have HB := n7_; clear n0_ n1_ n2_ n3_ n4_ n5_ n6_ n7_; (try clear hb); (try clear hb2); (try clear hk); (try clear hi)))
                      go_ret
                      exact ⟨by first | rfl | (simp [errW_none, errW_some] <;> rfl) | (simp [*, errW_none, errW_some] <;> rfl), by repeat (first | (with_reducible first | exact HB.out | apply below_alloc | apply pw_below_drewN | apply below_drew1 | refine below_set ?_ GE582.out | refine below_set ?_ GE595.out | refine below_set ?_ GE601.out | refine below_set ?_ GE608.out) | exact HB.out)⟩
          · replace c58 := Bool.eq_false_iff.mpr c58
            subst c58
            have H1 : (some false) = some r := by rw [if_neg (show ¬ (false = true) by decide)] at H; exact H
            clear H
            have H := H1
            clear H1
            obtain rfl := Option.some.inj H
            try go_wp2
            have n0_ := Aside0.mk (Kd.R_drew HO_596002.out)
            have n1_ := Aside0.mk (Kd.R_drew HO_602002.out)
            have n2_ := Aside0.mk (Kd.R_drew HO_609002.out)
            have n3_ := Aside0.mk (blk_drew BK582.out)
            have n4_ := Aside0.mk (blk_drew BK595.out)
            have n5_ := Aside0.mk (blk_drew BK601.out)
            have n6_ := Aside0.mk (blk_drew BK608.out)
            have n7_ := Aside0.mk (below_drew1 HB.out)
            clear HO_596002
            clear HO_602002
            clear HO_609002
            clear BK582
            clear BK595
            clear BK601
            clear BK608
            clear HB
            have HO_596002 := n0_
            have HO_602002 := n1_
            have HO_609002 := n2_
            have BK582 := n3_
            have BK595 := n4_
            have BK601 := n5_
            have BK608 := n6_
            have HB := n7_
            clear n0_ n1_ n2_ n3_ n4_ n5_ n6_ n7_
            refine start_ (n := 5) (S := fun w' => w'.cell? ⟨gb601, 0, none⟩ = some (.int .i64 t596) ∧ w'.cell? ⟨gb601, 1, none⟩ = some (.int .i64 t597) ∧ w'.cell? ⟨gb601, 2, none⟩ = some (.slice Ao29 t598.length co29) ∧ w'.cell? ⟨gb582, 0, none⟩ = some (.int .i64 a0_0) ∧ w'.cell? ⟨gb582, 1, none⟩ = some (.int .i64 a0_1) ∧ w'.cell? ⟨gb582, 2, none⟩ = some (.slice A0_2 l0_2.length c0_2)) (ds := []) #[false, false, false, false, false] (by kernel_rfl) rfl rfl ⟨(blk_cell BK601.out 0).trans rfl, (blk_cell BK601.out 1).trans rfl, (blk_cell BK601.out 2).trans rfl, (blk_cell BK582.out 0).trans rfl, (blk_cell BK582.out 1).trans rfl, (blk_cell BK582.out 2).trans rfl⟩ (fun hHeld => ?_)
            generalize wc.drew = w175 at HO_596002 HO_602002 HO_609002 BK582 BK595 BK601 BK608 HB hHeld ⊢
            refine take_ (i := 0) (N := some 41) (v := ?_) (a' := ?_) #[true, false, false, false, false] rfl rfl (by kernel_rfl) (fun _ _ _ h => h) (Or.inl ⟨by rfl, ?_⟩) hHeld ?_ ?_
            rotate_left
            · rintro w' ⟨s0, s1, s2, s3, s4, s5⟩
              go_simp
              with_reducible rfl
            rotate_left
            · simp only [Act.put, List.setIfInBounds_toArray, List.set_cons_zero, List.set_cons_succ, i64_w, i32_w]
              rfl
            refine take_ (i := 1) (N := some 42) (v := ?_) (a' := ?_) #[true, true, false, false, false] rfl rfl (by kernel_rfl) (fun _ _ _ h => h) (Or.inl ⟨by rfl, ?_⟩) hHeld ?_ ?_
            rotate_left
            · rintro w' ⟨s0, s1, s2, s3, s4, s5⟩
              go_simp
              with_reducible rfl
            rotate_left
            · simp only [Act.put, List.setIfInBounds_toArray, List.set_cons_zero, List.set_cons_succ, i64_w, i32_w]
              rfl
            refine one_ (i := 2) (N := some 43) #[true, true, true, false, false] rfl rfl (by kernel_rfl) (by decide) (fun K hK => ?_)
            refine goes_ Try.func21 (by kernel_rfl) rfl #[.agg #[.int .i64 a0_0, .int .i64 a0_1, .slice A0_2 l0_2.length c0_2]] (by rfl) rfl rfl (by (try simp only [List.map_toArray, List.map_cons, List.map_nil]); first | done | rfl | (simp only [List.length_drop, List.length_take]; rfl)) ?_
            with_reducible refine (laws_toChart.calls kj10 a0_0 a0_1 _ _ l0_2 t610 t611 t612 _ ?side1 ?side2 A56.out).mono ?_
            (case side1 => repeat (first | exact (Kd.C_below HR0_2.out HB.out) | (with_reducible refine Kd.C_alloc ?_ _) | (with_reducible refine Kd.C_drewN ?_ _) | (with_reducible refine Kd.C_drew ?_)))
            (case side2 => exact HC0_2.out)
            rintro e w176 ⟨v613, rfl, ho0, hb⟩
            refine ⟨_, rfl, ?_⟩
            have n0_ := Aside0.mk (Kd.R_elder' (by (with_reducible repeat (first | apply Kd.R_alloc | apply Kd.R_drewN | apply Kd.R_drew)); exact HO_596002.out) (Kd.R_base ho0) hb)
            have n1_ := Aside0.mk (Kd.R_elder' (by (with_reducible repeat (first | apply Kd.R_alloc | apply Kd.R_drewN | apply Kd.R_drew)); exact HO_602002.out) (Kd.R_base ho0) hb)
            have n2_ := Aside0.mk (Kd.R_elder' (by (with_reducible repeat (first | apply Kd.R_alloc | apply Kd.R_drewN | apply Kd.R_drew)); exact HO_609002.out) (Kd.R_base ho0) hb)
            have n3_ := Aside0.mk (Kd.R_lower (Kd.R_new' (Kd.R_new' (Kd.R_new' ho0 (Kd.R_lt (by (with_reducible repeat (first | apply Kd.R_alloc | apply Kd.R_drewN | apply Kd.R_drew)); exact HO_596002.out))) (Kd.R_lt (by (with_reducible repeat (first | apply Kd.R_alloc | apply Kd.R_drewN | apply Kd.R_drew)); exact HO_602002.out))) (Kd.R_lt (by (with_reducible repeat (first | apply Kd.R_alloc | apply Kd.R_drewN | apply Kd.R_drew)); exact HO_609002.out))) (below_size (by repeat (first | (with_reducible first | exact HB.out | apply below_alloc | apply pw_below_drewN | apply below_drew1 | refine below_set ?_ GE582.out | refine below_set ?_ GE595.out | refine below_set ?_ GE601.out | refine below_set ?_ GE608.out) | exact HB.out))))
            have n4_ := Aside0.mk (blk_below (g := gb582) (o := .cells #[.int .i64 a0_0, .int .i64 a0_1, .slice A0_2 l0_2.length c0_2] 30 (0, 0)) (by (with_reducible repeat (first | refine blk_drewN ?_ _ | refine blk_drew ?_ | refine blk_alloc ?_ _)); exact BK582.out) hb)
            have n5_ := Aside0.mk (blk_below (g := gb595) (o := .cells #[.int .i64 t589, .int .i64 t590, .slice Ao22 t591.length co22] 24 (0, 0)) (by (with_reducible repeat (first | refine blk_drewN ?_ _ | refine blk_drew ?_ | refine blk_alloc ?_ _)); exact BK595.out) hb)
            have n6_ := Aside0.mk (blk_below (g := gb601) (o := .cells #[.int .i64 t596, .int .i64 t597, .slice Ao29 t598.length co29] 24 (0, 0)) (by (with_reducible repeat (first | refine blk_drewN ?_ _ | refine blk_drew ?_ | refine blk_alloc ?_ _)); exact BK601.out) hb)
            have n7_ := Aside0.mk (blk_below (g := gb608) (o := .cells #[.int .i64 t602, .int .i64 t603, .slice Ao36 t604.length co36] 24 (0, 0)) (by (with_reducible repeat (first | refine blk_drewN ?_ _ | refine blk_drew ?_ | refine blk_alloc ?_ _)); exact BK608.out) hb)
            have n8_ := Aside0.mk (below_step (by repeat (first | (with_reducible first | exact HB.out | apply below_alloc | apply pw_below_drewN | apply below_drew1 | refine below_set ?_ GE582.out | refine below_set ?_ GE595.out | refine below_set ?_ GE601.out | refine below_set ?_ GE608.out) | exact HB.out)) hb)
            clear HO_596002
            clear HO_602002
            clear HO_609002
            clear BK582
            clear BK595
            clear BK601
            clear BK608
            clear HB
            have HO_596002 := n0_
            have HO_602002 := n1_
            have HO_609002 := n2_
            have HO614 := n3_
            have BK582 := n4_
            have BK595 := n5_
            have BK601 := n6_
            have BK608 := n7_
            have HB := n8_
            clear n0_ n1_ n2_ n3_ n4_ n5_ n6_ n7_ n8_
            (try clear hb)
            (try clear hb2)
            (try clear hk)
            (try clear hi)
            (try clear ho0)
            obtain ⟨Ao177, co177, eo177⟩ := Kd.R_slice HO614.out
            (first | subst eo177 | (injection eo177 with f1_ f2_ f3_; have f4_ := f1_.symm; have f5_ := f3_.symm; clear f1_ f2_ f3_; subst f4_; subst f5_))
            refine hK.out _ _ ⟨(blk_cell BK601.out 0).trans rfl, (blk_cell BK601.out 1).trans rfl, (blk_cell BK601.out 2).trans rfl, (blk_cell BK582.out 0).trans rfl, (blk_cell BK582.out 1).trans rfl, (blk_cell BK582.out 2).trans rfl⟩ (fun hHeld => ?_)
            clear hK K
            refine norm_ (a' := ?_) ?_ ?_
            rotate_left
            · show Act.put _ (some 43) _ = _
              simp only [Act.put, List.setIfInBounds_toArray, List.set_cons_zero, List.set_cons_succ, i64_w, i32_w]
              rfl
            refine one_ (i := 3) (N := some 44) #[true, true, true, true, false] rfl rfl (by kernel_rfl) (by decide) (fun K hK => ?_)
            refine goes_ Try.func16 (by kernel_rfl) rfl #[.agg #[.int .i64 t596, .int .i64 t597, .slice Ao29 t598.length co29], .agg #[.int .i64 t610, .int .i64 t611, .slice Ao177 t612.length co177]] (by rfl) rfl rfl (by (try simp only [List.map_toArray, List.map_cons, List.map_nil]); first | done | rfl | (simp only [List.length_drop, List.length_take]; rfl)) ?_
            with_reducible refine (laws_eqChart.calls kj10 t596 t597 _ _ t598 t610 t611 _ _ t612 false _ ?side1 ?side2 ?side3 ?side4 A57.out).mono ?_
            (case side1 => repeat (first | exact (Kd.R_reads' HO_602002.out).2.2 | (with_reducible refine Kd.C_alloc ?_ _) | (with_reducible refine Kd.C_drewN ?_ _) | (with_reducible refine Kd.C_drew ?_)))
            (case side2 => exact (Kd.R_reads' HO_602002.out).2.1)
            (case side3 => repeat (first | exact (Kd.R_reads' HO614.out).2.2 | (with_reducible refine Kd.C_alloc ?_ _) | (with_reducible refine Kd.C_drewN ?_ _) | (with_reducible refine Kd.C_drew ?_)))
            (case side4 => exact (Kd.R_reads' HO614.out).2.1)
            rintro e w178 ⟨rfl, hb⟩
            refine ⟨_, rfl, ?_⟩
            have n0_ := Aside0.mk (Kd.R_below (by (with_reducible repeat (first | apply Kd.R_alloc | apply Kd.R_drewN | apply Kd.R_drew)); exact HO_596002.out) hb)
            have n1_ := Aside0.mk (Kd.R_below (by (with_reducible repeat (first | apply Kd.R_alloc | apply Kd.R_drewN | apply Kd.R_drew)); exact HO_602002.out) hb)
            have n2_ := Aside0.mk (Kd.R_below (by (with_reducible repeat (first | apply Kd.R_alloc | apply Kd.R_drewN | apply Kd.R_drew)); exact HO_609002.out) hb)
            have n3_ := Aside0.mk (Kd.R_below (by (with_reducible repeat (first | apply Kd.R_alloc | apply Kd.R_drewN | apply Kd.R_drew)); exact HO614.out) hb)
            have n4_ := Aside0.mk (blk_below (g := gb582) (o := .cells #[.int .i64 a0_0, .int .i64 a0_1, .slice A0_2 l0_2.length c0_2] 30 (0, 0)) (by (with_reducible repeat (first | refine blk_drewN ?_ _ | refine blk_drew ?_ | refine blk_alloc ?_ _)); exact BK582.out) hb)
            have n5_ := Aside0.mk (blk_below (g := gb595) (o := .cells #[.int .i64 t589, .int .i64 t590, .slice Ao22 t591.length co22] 24 (0, 0)) (by (with_reducible repeat (first | refine blk_drewN ?_ _ | refine blk_drew ?_ | refine blk_alloc ?_ _)); exact BK595.out) hb)
            have n6_ := Aside0.mk (blk_below (g := gb601) (o := .cells #[.int .i64 t596, .int .i64 t597, .slice Ao29 t598.length co29] 24 (0, 0)) (by (with_reducible repeat (first | refine blk_drewN ?_ _ | refine blk_drew ?_ | refine blk_alloc ?_ _)); exact BK601.out) hb)
            have n7_ := Aside0.mk (blk_below (g := gb608) (o := .cells #[.int .i64 t602, .int .i64 t603, .slice Ao36 t604.length co36] 24 (0, 0)) (by (with_reducible repeat (first | refine blk_drewN ?_ _ | refine blk_drew ?_ | refine blk_alloc ?_ _)); exact BK608.out) hb)
            have n8_ := Aside0.mk (below_step (by repeat (first | (with_reducible first | exact HB.out | apply below_alloc | apply pw_below_drewN | apply below_drew1 | refine below_set ?_ GE582.out | refine below_set ?_ GE595.out | refine below_set ?_ GE601.out | refine below_set ?_ GE608.out) | exact HB.out)) hb)
            clear HO_596002
            clear HO_602002
            clear HO_609002
            clear HO614
            clear BK582
            clear BK595
            clear BK601
            clear BK608
            clear HB
            have HO_596002 := n0_
            have HO_602002 := n1_
            have HO_609002 := n2_
            have HO614 := n3_
            have BK582 := n4_
            have BK595 := n5_
            have BK601 := n6_
            have BK608 := n7_
            have HB := n8_
            clear n0_ n1_ n2_ n3_ n4_ n5_ n6_ n7_ n8_
            (try clear hb)
            (try clear hb2)
            (try clear hk)
            (try clear hi)
            refine hK.out _ _ ⟨(blk_cell BK601.out 0).trans rfl, (blk_cell BK601.out 1).trans rfl, (blk_cell BK601.out 2).trans rfl, (blk_cell BK582.out 0).trans rfl, (blk_cell BK582.out 1).trans rfl, (blk_cell BK582.out 2).trans rfl⟩ (fun hHeld => ?_)
            clear hK K
            refine norm_ (a' := ?_) ?_ ?_
            rotate_left
            · show Act.put _ (some 44) _ = _
              simp only [Act.put, List.setIfInBounds_toArray, List.set_cons_zero, List.set_cons_succ, i64_w, i32_w]
              rfl
            refine pure_ (i := 4) (N := some 45) (v := ?_) (a' := ?_) #[true, true, true, true, true] rfl rfl (by kernel_rfl) (fun _ _ _ h => h) (Or.inl ⟨by rfl, ?_⟩) ?_ ?_
            rotate_left
            · intro w'
              go_simp
              with_reducible rfl
            rotate_left
            · simp only [Act.put, List.setIfInBounds_toArray, List.set_cons_zero, List.set_cons_succ, i64_w, i32_w]
              rfl
            refine done_ (by kernel_rfl) ?_
            try go_wp2
            go_ret
            exact ⟨by first | rfl | (simp [errW_none, errW_some] <;> rfl) | (simp [*, errW_none, errW_some] <;> rfl), by repeat (first | (with_reducible first | exact HB.out | apply below_alloc | apply pw_below_drewN | apply below_drew1 | refine below_set ?_ GE582.out | refine below_set ?_ GE595.out | refine below_set ?_ GE601.out | refine below_set ?_ GE608.out) | exact HB.out)⟩

end Go.Proofs.Ytkjfoejiickphaa.G
