-- Printed by a program of this session (wip/tools/gp.sh); Lean checks it.
import Derived.Test.YtpbipijjihbjhaaGx0
import Derived.Test.YtpbipijjihbjhaaGx6
namespace Go.Proofs.Ytpbipijjihbjhaa.G
open Go.RowKit Go.Proofs.YtpbipijjihbjhaaW.PrintWords Go.Proofs.YtpbipijjihbjhaaW.PrintLast Go.Proofs.YtpbipijjihbjhaaW.PrintMore
attribute [local go_sem] isSome_setCell_ max2_int min2_int max_two min_two max_three min_three max_four min_four   -- for this text's walks alone
set_option linter.unusedVariables false
set_option linter.unusedSimpArgs false

/-! ### impl_makeChart: function 46 -/
section
variable {P : Program} {ops : Array Oper} {Q : Exit → Act → World → Prop}
/-- A call through a function value, in a region that draws. -/
theorem goesV_ {oi : Oper} {N : Option Tmp} {a : Act} {w : World} {K : Act → World → Prop} {g : FuncId} {lb : Array Value} {v : Operand} {xs : Array Operand} {ts : Array TypeId} (he : ∀ args w, (callFunc g args).run P w = .ok (.enter g args) w) (args0 : Array Value)
    (hw : Region.wanted oi (yielded ops a.tmps) = true) (hN : oi.dst = N) (hop : oi.op = .call { callee := .value v, args := xs, argTypes := ts }) (hv : a.eval v = .func (.func g) #[] lb) (hargs : xs.map a.eval = args0)
    (h : Calls P g (args0 ++ lb) w fun e w' => ∃ v, e = .returned v ∧ K (a.put N v) w') : if Region.wanted oi (yielded ops a.tmps) = true then Oper.wp P oi a w K Q else K (a.put N undef) w := by
  refine call_ g (args0 ++ lb) hw hN ?_ h
  have he := he (args0 ++ lb) w
  subst hargs
  unfold execOp
  simp [hop, resolve, Deferred.ofValue, invoke, hv, he]
end
mutual
def impl_makeChart.l0 (OF : Int → Int → Option Int) : Nat → Int → Int → Int → Int → Int → List Int → Option (Int × Int × List Int)
  | 0, _, _, _, _, _, _ => none
  | k + 1, x0, x13, x14, x172000, x172001, x172002 => if x14 < x13 then (impl_makeChart.l1 OF k x0 x14 x13 x14 x0 0 x172000 x172001 x172002) else (some (x172000, x172001, x172002))
def impl_makeChart.l1 (OF : Int → Int → Option Int) : Nat → Int → Int → Int → Int → Int → Int → Int → Int → List Int → Option (Int × Int × List Int)
  | 0, _, _, _, _, _, _, _, _, _ => none
  | k + 1, x0, x8, x13, x14, x17, x18, x172000, x172001, x172002 => if x18 < x17 then ((OF x8 x18).bind fun t172 => (if x172002.length < 17592186044416 then (impl_makeChart.l1 OF k x0 x8 x13 x14 x17 (wrap64 (x18 + 1)) x172000 x172001 (x172002 ++ [t172])) else (none))) else (impl_makeChart.l0 OF k x0 x13 (wrap64 (x14 + 1)) x172000 x172001 x172002)
end
def impl_makeChart.f (OF : Int → Int → Option Int) (k : Nat) (a0 : Int) (a1 : Int) : Option (Int × Int × List Int) := impl_makeChart.l0 OF k a0 a1 0 a0 a1 ([] : List Int)
theorem impl_makeChart.mono_l (OF : Int → Int → Option Int) : ∀ k, (∀ y0 y1 y2 y3 y4 y5, LeO (impl_makeChart.l0 OF k y0 y1 y2 y3 y4 y5) (impl_makeChart.l0 OF (k + 1) y0 y1 y2 y3 y4 y5)) ∧ (∀ y0 y1 y2 y3 y4 y5 y6 y7 y8, LeO (impl_makeChart.l1 OF k y0 y1 y2 y3 y4 y5 y6 y7 y8) (impl_makeChart.l1 OF (k + 1) y0 y1 y2 y3 y4 y5 y6 y7 y8))
  | 0 => ⟨fun _ _ _ _ _ _ r h => by simp [impl_makeChart.l0] at h, fun _ _ _ _ _ _ _ _ _ r h => by simp [impl_makeChart.l1] at h⟩
  | k + 1 => by
    obtain ⟨ih0, ih1⟩ := impl_makeChart.mono_l OF k
    refine ⟨?_, ?_⟩
    · intro y0 y1 y2 y3 y4 y5
      unfold impl_makeChart.l0
      repeat' first
      | (with_reducible exact ih0 _ _ _ _ _ _)
      | (with_reducible exact ih1 _ _ _ _ _ _ _ _ _)
      | (with_reducible exact LeO.refl _)
      | (with_reducible exact LeO.none _)
      | (with_reducible refine LeO.ite ?_ ?_)
      | (with_reducible refine LeO.bind ?_ (fun _ => ?_))
      | exact ih0 _ _ _ _ _ _
      | exact ih1 _ _ _ _ _ _ _ _ _
      | exact LeO.none _
      | refine LeO.ite ?_ ?_
      | refine LeO.bind ?_ (fun _ => ?_)
    · intro y0 y1 y2 y3 y4 y5 y6 y7 y8
      unfold impl_makeChart.l1
      repeat' first
      | (with_reducible exact ih0 _ _ _ _ _ _)
      | (with_reducible exact ih1 _ _ _ _ _ _ _ _ _)
      | (with_reducible exact LeO.refl _)
      | (with_reducible exact LeO.none _)
      | (with_reducible refine LeO.ite ?_ ?_)
      | (with_reducible refine LeO.bind ?_ (fun _ => ?_))
      | exact ih0 _ _ _ _ _ _
      | exact ih1 _ _ _ _ _ _ _ _ _
      | exact LeO.none _
      | refine LeO.ite ?_ ?_
      | refine LeO.bind ?_ (fun _ => ?_)
theorem impl_makeChart.mono (OF : Int → Int → Option Int) : ∀ a0 a1 k, LeO (impl_makeChart.f OF k a0 a1) (impl_makeChart.f OF (k + 1) a0 a1) := by
  intro a0 a1 k
  obtain ⟨ih0, ih1⟩ := impl_makeChart.mono_l OF k
  unfold impl_makeChart.f
  repeat' first
      | (with_reducible exact ih0 _ _ _ _ _ _)
      | (with_reducible exact ih1 _ _ _ _ _ _ _ _ _)
      | (with_reducible exact LeO.refl _)
      | (with_reducible exact LeO.none _)
      | (with_reducible refine LeO.ite ?_ ?_)
      | (with_reducible refine LeO.bind ?_ (fun _ => ?_))
      | exact ih0 _ _ _ _ _ _
      | exact ih1 _ _ _ _ _ _ _ _ _
      | exact LeO.none _
      | refine LeO.ite ?_ ?_
      | refine LeO.bind ?_ (fun _ => ?_)
def impl_makeChart.T8 : Bool × List (List Nat × List Nat) := (true, [([], []), ([0], [0]), ([], []), ([], []), ([], []), ([2, 3, 4], [2, 3, 4]), ([5], [5]), ([1, 6, 5], [1, 6]), ([0, 1, 2, 3, 4, 5, 6, 7], []), ([8, 7, 7, 0, 1, 2, 3, 4, 5, 6, 7], [7, 8])])
def impl_makeChart.B8 : List Nat := [0, 1, 0, 0, 0, 28, 60, 127, 255, 511]
theorem impl_makeChart.tab8 : rtab .any (opsOf Try.f46 8) = impl_makeChart.T8 := by kernel_rfl
theorem impl_makeChart.bits8 : waitsOk impl_makeChart.T8.2 impl_makeChart.B8 = true := by kernel_rfl
set_option maxHeartbeats 8000000 in
set_option maxRecDepth 100000 in
theorem impl_makeChart.calls (OF : Int → Int → Option Int) (gF : Nat) (lbF : Array Value) (eF : ∀ args w, (callFunc gF args).run Try.prog w = .ok (.enter gF args) w) (k : Nat) (a0 : Int) (a1 : Int) (r1 : Int) (r2 : Int) (r3 : List Int) (w : World)
    (hF : ∀ (W : World) (x y t : Int), Below w.heap.size w W → OF x y = some t → Calls Try.prog gF (#[.int .i64 x, .int .i64 y] ++ lbF) W fun e w' => e = .returned (.int .i64 t) ∧ Below W.heap.size W w') (h : impl_makeChart.f OF k a0 a1 = some (r1, r2, r3)) :
    Calls Try.prog 46 #[.int .i64 a0, .int .i64 a1, .func (.func gF) #[] lbF] w fun e w' => ∃ v2_ : Value, e = .returned (.agg #[.int .i64 r1, .int .i64 r2, v2_]) ∧ Kd.R (Kd.int .i64) 3 w' w.heap.size (fun _ => True) v2_ r3 ∧ Below w.heap.size w w' := by
  have hu24 := Try.underlying29
  have HEF := Aside0.mk eF
  have HHF := Aside0.mk hF
  clear eF hF
  have HB := Aside0.mk (Below.refl w.heap.size w)
  have H : (impl_makeChart.l0 OF k a0 a1 0 a0 a1 ([] : List Int)) = some (r1, r2, r3) := h
  clear h
  have H' := Aside0.mk H
  clear H
  go_enter Try.func46, Try.ntmps46
  go_wp2_with (first | ((with_reducible refine gate_dst (N := 6) rfl ?_); refine box_event ?hg (N := 6) ?hd (cs := #[.int .i64 0, .int .i64 0, .slice none 0 0]) (t := 29) ?hr ?_; (case hd => rfl); (case hg => rfl); (case hr => first | (go_simp; done) | (go_simp; rfl)); intro gb170 hg w4 hbox hb; have n0_ := Aside0.mk (below_step (by repeat (first | (with_reducible first | exact HB.out | apply below_alloc | apply pw_below_drewN | apply below_drew1) | exact HB.out)) hb); have n1_ := Aside0.mk (hbox); have n2_ := Aside0.mk ((by rw [hg]; exact (below_size (by repeat (first | (with_reducible first | exact HB.out | apply below_alloc | apply pw_below_drewN | apply below_drew1) | exact HB.out))) : w.heap.size ≤ gb170)); have n3_ := Aside0.mk ((by rw [hg]; exact (below_size (by repeat (first | (with_reducible first | exact HB.out | apply below_alloc | apply pw_below_drewN | apply below_drew1) | exact HB.out))) : w.heap.size ≤ gb170)); clear HB; have HB := n0_; have BK170 := n1_; have GW170 := n2_; have GE170 := n3_; clear n0_ n1_ n2_ n3_; clear hb hbox hg) | ((with_reducible refine gate_dst (N := 7) rfl ?_); refine box_event ?hg (N := 7) ?hd (cs := #[.int .i64 0, .int .i64 0, .slice none 0 0]) (t := 29) ?hr ?_; (case hd => rfl); (case hg => rfl); (case hr => first | (go_simp; done) | (go_simp; rfl)); intro gb171 hg w5 hbox hb; have n0_ := Aside0.mk (blk_below (g := gb170) (o := .cells #[.int .i64 0, .int .i64 0, .slice none 0 0] 29 (0, 0)) (by (with_reducible repeat (first | refine blk_drewN ?_ _ | refine blk_drew ?_ | refine blk_alloc ?_ _)); exact BK170.out) hb); have n1_ := Aside0.mk (below_step (by repeat (first | (with_reducible first | exact HB.out | apply below_alloc | apply pw_below_drewN | apply below_drew1 | refine below_set ?_ GE170.out) | exact HB.out)) hb); have n2_ := Aside0.mk (hbox); have n3_ := Aside0.mk ((by rw [hg]; exact (below_size (by repeat (first | (with_reducible first | exact HB.out | apply below_alloc | apply pw_below_drewN | apply below_drew1 | refine below_set ?_ GE170.out) | exact HB.out))) : w.heap.size ≤ gb171)); have n4_ := Aside0.mk ((by rw [hg]; exact (below_size (by repeat (first | (with_reducible first | exact HB.out | apply below_alloc | apply pw_below_drewN | apply below_drew1 | refine below_set ?_ GE170.out) | exact HB.out))) : w.heap.size ≤ gb171)); have n5_ := Aside0.mk ((by rw [hg]; exact Nat.ne_of_lt (blk_lt (g := gb170) (o := .cells #[.int .i64 0, .int .i64 0, .slice none 0 0] 29 (0, 0)) (by (with_reducible repeat (first | refine blk_drewN ?_ _ | refine blk_drew ?_ | refine blk_alloc ?_ _)); exact BK170.out)) : gb170 ≠ gb171)); have n6_ := Aside0.mk ((by rw [hg]; exact Nat.ne_of_gt (blk_lt (g := gb170) (o := .cells #[.int .i64 0, .int .i64 0, .slice none 0 0] 29 (0, 0)) (by (with_reducible repeat (first | refine blk_drewN ?_ _ | refine blk_drew ?_ | refine blk_alloc ?_ _)); exact BK170.out)) : gb171 ≠ gb170)); clear BK170; clear HB; have BK170 := n0_; have HB := n1_; have BK171 := n2_; have GW171 := n3_; have GE171 := n4_; have NB170_171 := n5_; have NB171_170 := n6_; clear n0_ n1_ n2_ n3_ n4_ n5_ n6_; clear hb hbox hg; have hnb6 := NB171_170.out; have hnc6 := NB170_171.out; have hcz7_0 : w5.cell? ⟨gb171, 0, none⟩ = some (.int .i64 0) := (blk_cell BK171.out 0).trans rfl; have hcz7_1 : w5.cell? ⟨gb171, 1, none⟩ = some (.int .i64 0) := (blk_cell BK171.out 1).trans rfl; have hcz7_2 : w5.cell? ⟨gb171, 2, none⟩ = some (.slice none 0 0) := (blk_cell BK171.out 2).trans rfl; have hfz7_0 := blk_frozen BK171.out 0; have hfz7_1 := blk_frozen BK171.out 1; have hfz7_2 := blk_frozen BK171.out 2))
  go_loopg [14] k (fun kq v14 w' => ∃ (x14_1 : Int) (x172002_1 : List Int) (u172002 : Value), v14 = .int .i64 x14_1 ∧ Aside0 (impl_makeChart.l0 OF kq a0 a1 x14_1 a0 a1 x172002_1 = some (r1, r2, r3)) ∧ Aside0 (kq ≤ k) ∧ Aside0 (Kd.R (Kd.int .i64) 3 w' w.heap.size (fun _ => True) u172002 x172002_1) ∧ Aside0 (w'.heap[gb170]? = some (.cells #[.int .i64 0, .int .i64 0, (.slice none 0 0)] 29 (0, 0))) ∧ Aside0 (w'.heap[gb171]? = some (.cells #[.int .i64 a0, .int .i64 a1, u172002] 29 (0, 0))) ∧ Aside0 (Below w.heap.size w w'))
  case atStart => exact ⟨(0), (([] : List Int)), (.slice none 0 0), (by first | rfl | (simp; done) | (simp [*]; done)), H', ⟨Nat.le_refl _⟩, ⟨by first | exact Kd.R_nil _ _ _ _ _ | exact Kd.N_nil _ _ _ _ _ | exact Kd.V_nil _ _ _ _ _ | exact Kd.Q_nil _ _ _ _ _ | exact Kd.S_nil _ _ _ _ _⟩, ⟨by (with_reducible repeat (first | refine blk_drewN ?_ _ | refine blk_drew ?_ | refine blk_alloc ?_ _)); refine blk_far ?_ NB170_171.out _; (with_reducible repeat (first | refine blk_drewN ?_ _ | refine blk_drew ?_ | refine blk_alloc ?_ _)); refine blk_far ?_ NB170_171.out _; (with_reducible repeat (first | refine blk_drewN ?_ _ | refine blk_drew ?_ | refine blk_alloc ?_ _)); refine blk_far ?_ NB170_171.out _; (with_reducible repeat (first | refine blk_drewN ?_ _ | refine blk_drew ?_ | refine blk_alloc ?_ _)); exact BK170.out⟩, ⟨by (with_reducible repeat (first | refine blk_drewN ?_ _ | refine blk_drew ?_ | refine blk_alloc ?_ _)); refine blk_put (cs := #[.int .i64 a0, .int .i64 a1, .slice none 0 0]) ?_ 2 _ rfl; (with_reducible repeat (first | refine blk_drewN ?_ _ | refine blk_drew ?_ | refine blk_alloc ?_ _)); refine blk_put (cs := #[.int .i64 a0, .int .i64 0, .slice none 0 0]) ?_ 1 _ rfl; (with_reducible repeat (first | refine blk_drewN ?_ _ | refine blk_drew ?_ | refine blk_alloc ?_ _)); refine blk_put (cs := #[.int .i64 0, .int .i64 0, .slice none 0 0]) ?_ 0 _ rfl; (with_reducible repeat (first | refine blk_drewN ?_ _ | refine blk_drew ?_ | refine blk_alloc ?_ _)); exact BK171.out⟩, ⟨by repeat (first | (with_reducible first | exact HB.out | apply below_alloc | apply pw_below_drewN | apply below_drew1 | refine below_set ?_ GE170.out | refine below_set ?_ GE171.out) | exact HB.out)⟩⟩
  case round =>
    clear H'
    try clear p2
    try clear c4
    try clear c6
    try clear hcz7_0
    try clear hcz7_1
    try clear hcz7_2
    try clear hfz7_0
    try clear hfz7_1
    try clear hfz7_2
    obtain ⟨x14_1, x172002_1, u172002, rfl, HA, HK1, HO_172002, BK170, BK171, HB⟩ := hrel
    cases gk with
    | zero => exact absurd HA.out (by simp [impl_makeChart.l0])
    | succ k1 =>
      have H := HA.out
      clear HA
      simp only [impl_makeChart.l0] at H
      by_cases c8 : x14_1 < a1
      · rw [if_pos c8] at H
        have c8b0 : decide (x14_1 < a1) = true := decide_eq_true c8
        clear c8
        have H' := Aside0.mk H
        clear H
        go_wp2
        go_loopg [18] k1 (fun kq v18 w' => ∃ (x18_2 : Int) (x172002_2 : List Int) (u172002 : Value), v18 = .int .i64 x18_2 ∧ Aside0 (impl_makeChart.l1 OF kq a0 x14_1 a1 x14_1 a0 x18_2 a0 a1 x172002_2 = some (r1, r2, r3)) ∧ Aside0 (kq ≤ k1) ∧ Aside0 (Kd.R (Kd.int .i64) 3 w' w.heap.size (fun _ => True) u172002 x172002_2) ∧ Aside0 (w'.heap[gb170]? = some (.cells #[.int .i64 0, .int .i64 0, (.slice none 0 0)] 29 (0, 0))) ∧ Aside0 (w'.heap[gb171]? = some (.cells #[.int .i64 a0, .int .i64 a1, u172002] 29 (0, 0))) ∧ Aside0 (Below w.heap.size w w'))
        case atStart => exact ⟨(0), (x172002_1), (u172002), (by first | rfl | (simp; done) | (simp [*]; done)), H', ⟨Nat.le_refl _⟩, ⟨by (with_reducible repeat (first | apply Kd.R_alloc | apply Kd.R_drewN | apply Kd.R_drew)); exact HO_172002.out⟩, ⟨by (with_reducible repeat (first | refine blk_drewN ?_ _ | refine blk_drew ?_ | refine blk_alloc ?_ _)); exact BK170.out⟩, ⟨by (with_reducible repeat (first | refine blk_drewN ?_ _ | refine blk_drew ?_ | refine blk_alloc ?_ _)); exact BK171.out⟩, ⟨by repeat (first | (with_reducible first | exact HB.out | apply below_alloc | apply pw_below_drewN | apply below_drew1 | refine below_set ?_ GE170.out | refine below_set ?_ GE171.out) | exact HB.out)⟩⟩
        case round =>
          clear H'
          try clear p2
          try clear c4
          try clear c6
          try clear c8
          try clear c8b0
          try clear hcz7_0
          try clear hcz7_1
          try clear hcz7_2
          try clear hfz7_0
          try clear hfz7_1
          try clear hfz7_2
          try clear p2
          obtain ⟨x18_2, x172002_2, u172002, rfl, HA, HK2, HO_172002, BK170, BK171, HB⟩ := hrel
          cases gk with
          | zero => exact absurd HA.out (by simp [impl_makeChart.l1])
          | succ k2 =>
            have H := HA.out
            clear HA
            simp only [impl_makeChart.l1] at H
            by_cases c9 : x18_2 < a0
            · rw [if_pos c9] at H
              have c9b0 : decide (x18_2 < a0) = true := decide_eq_true c9
              clear c9
              replace H := Option.bind_eq_some_iff.mp H
              obtain ⟨t172, A100, H⟩ := H
              replace H : (if x172002_2.length < 17592186044416 then (impl_makeChart.l1 OF k2 a0 x14_1 a1 x14_1 a0 (wrap64 (x18_2 + 1)) a0 a1 (x172002_2 ++ [t172])) else (none)) = some (r1, r2, r3) := H
              have A10 := Aside0.mk A100
              clear A100
              by_cases c11 : x172002_2.length < 17592186044416
              · rw [if_pos c11] at H
                have LMc11 := Aside0.mk c11
                clear c11
                obtain ⟨y173, hy173⟩ : ∃ y_ : List Int, y_ = (x172002_2 ++ [t172]) := ⟨_, rfl⟩
                replace H : (impl_makeChart.l1 OF k2 a0 x14_1 a1 x14_1 a0 (wrap64 (x18_2 + 1)) a0 a1 y173) = some (r1, r2, r3) := by first | (rw [hy173]; with_reducible exact H) | (have H2_ := (Option.bind_some _ _).symm.trans H; rw [hy173]; with_reducible exact H2_) | (have H2_ := (Option.bind_some _ _).symm.trans H; with_reducible exact H2_) | with_reducible exact H | (rw [hy173]; exact H) | exact H
                have Ny173 := Aside0.mk hy173
                clear hy173
                have H' := Aside0.mk H
                clear H
                try go_wp2
                have n0_ := Aside0.mk (Kd.R_drew HO_172002.out)
                have n1_ := Aside0.mk (blk_drew BK170.out)
                have n2_ := Aside0.mk (blk_drew BK171.out)
                have n3_ := Aside0.mk (below_drew1 HB.out)
                clear HO_172002
                clear BK170
                clear BK171
                clear HB
                have HO_172002 := n0_
                have BK170 := n1_
                have BK171 := n2_
                have HB := n3_
                clear n0_ n1_ n2_ n3_
                refine start_ (n := 10) (S := fun w' => w'.cell? ⟨gb171, 0, none⟩ = some (.int .i64 a0) ∧ w'.cell? ⟨gb171, 1, none⟩ = some (.int .i64 a1) ∧ w'.cell? ⟨gb171, 2, none⟩ = some (u172002)) (ds := [9]) #[false, false, false, false, false, false, false, false, false, false] (by kernel_rfl) rfl rfl ⟨(blk_cell BK171.out 0).trans rfl, (blk_cell BK171.out 1).trans rfl, (blk_cell BK171.out 2).trans rfl⟩ (fun hHeld => ?_); refine with_tabW impl_makeChart.tab8 impl_makeChart.bits8 (fun HT_ HW_ => ?_)
                generalize wr.drew = w12 at HO_172002 BK170 BK171 HB hHeld ⊢
                refine pure_ (i := 0) (N := some 21) (v := ?_) (a' := ?_) #[true, false, false, false, false, false, false, false, false, false] rfl rfl (any_of HT_.out (by kernel_rfl)) (fun _ _ _ h => h) (Or.inl ⟨by rfl, ?_⟩) ?_ ?_
                rotate_left
                · intro w'
                  go_simp
                  with_reducible rfl
                rotate_left
                · simp only [Act.put, List.setIfInBounds_toArray, List.set_cons_zero, List.set_cons_succ, i64_w, i32_w]
                  rfl
                refine pure_ (i := 2) (N := some 23) (v := ?_) (a' := ?_) #[true, false, true, false, false, false, false, false, false, false] rfl rfl (any_of HT_.out (by kernel_rfl)) (fun _ _ _ h => h) (Or.inl ⟨by rfl, ?_⟩) ?_ ?_
                rotate_left
                · intro w'
                  go_simp
                  with_reducible rfl
                rotate_left
                · simp only [Act.put, List.setIfInBounds_toArray, List.set_cons_zero, List.set_cons_succ, i64_w, i32_w]
                  rfl
                refine pure_ (i := 3) (N := some 24) (v := ?_) (a' := ?_) #[true, false, true, true, false, false, false, false, false, false] rfl rfl (any_of HT_.out (by kernel_rfl)) (fun _ _ _ h => h) (Or.inl ⟨by rfl, ?_⟩) ?_ ?_
                rotate_left
                · intro w'
                  go_simp
                  with_reducible rfl
                rotate_left
                · simp only [Act.put, List.setIfInBounds_toArray, List.set_cons_zero, List.set_cons_succ, i64_w, i32_w]
                  rfl
                refine pure_ (i := 4) (N := some 25) (v := ?_) (a' := ?_) #[true, false, true, true, true, false, false, false, false, false] rfl rfl (any_of HT_.out (by kernel_rfl)) (fun _ _ _ h => h) (Or.inl ⟨by rfl, ?_⟩) ?_ ?_
                rotate_left
                · intro w'
                  go_simp
                  with_reducible rfl
                rotate_left
                · simp only [Act.put, List.setIfInBounds_toArray, List.set_cons_zero, List.set_cons_succ, i64_w, i32_w]
                  rfl
                refine take_ (i := 1) (N := some 22) (v := ?_) (a' := ?_) #[true, true, true, true, true, false, false, false, false, false] rfl rfl (take_ofW HT_.out HW_.out (by kernel_rfl)) (fun _ _ _ h => h) (Or.inl ⟨by rfl, ?_⟩) hHeld ?_ ?_
                rotate_left
                · rintro w' ⟨s0, s1, s2⟩
                  go_simp
                  with_reducible rfl
                rotate_left
                · simp only [Act.put, List.setIfInBounds_toArray, List.set_cons_zero, List.set_cons_succ, i64_w, i32_w]
                  rfl
                refine one_ (i := 5) (N := some 26) #[true, true, true, true, true, true, false, false, false, false] rfl rfl (one_of HT_.out (by kernel_rfl)) (by decide) (fun K hK => ?_)
                refine goesV_ HEF.out #[.int .i64 x14_1, .int .i64 x18_2] (by rfl) rfl rfl rfl (by (try simp only [List.map_toArray, List.map_cons, List.map_nil]); first | done | rfl) ?_
                refine (HHF.out _ x14_1 x18_2 t172 ?sideB A10.out).mono ?_
                (case sideB => repeat (first | (with_reducible first | exact HB.out | apply below_alloc | apply pw_below_drewN | apply below_drew1) | exact HB.out))
                rintro e w13 ⟨rfl, hb⟩
                refine ⟨_, rfl, ?_⟩
                have n0_ := Aside0.mk (Kd.R_below (by (with_reducible repeat (first | apply Kd.R_alloc | apply Kd.R_drewN | apply Kd.R_drew)); exact HO_172002.out) hb)
                have n1_ := Aside0.mk (blk_below (g := gb170) (o := .cells #[.int .i64 0, .int .i64 0, .slice none 0 0] 29 (0, 0)) (by (with_reducible repeat (first | refine blk_drewN ?_ _ | refine blk_drew ?_ | refine blk_alloc ?_ _)); exact BK170.out) hb)
                have n2_ := Aside0.mk (blk_below (g := gb171) (o := .cells #[.int .i64 a0, .int .i64 a1, u172002] 29 (0, 0)) (by (with_reducible repeat (first | refine blk_drewN ?_ _ | refine blk_drew ?_ | refine blk_alloc ?_ _)); exact BK171.out) hb)
                have n3_ := Aside0.mk (below_step (by repeat (first | (with_reducible first | exact HB.out | apply below_alloc | apply pw_below_drewN | apply below_drew1 | refine below_set ?_ GE170.out | refine below_set ?_ GE171.out) | exact HB.out)) hb)
                clear HO_172002
                clear BK170
                clear BK171
                clear HB
                have HO_172002 := n0_
                have BK170 := n1_
                have BK171 := n2_
                have HB := n3_
                clear n0_ n1_ n2_ n3_
                (try clear hb)
                (try clear hb2)
                (try clear hk)
                (try clear hi)
                refine hK.out _ _ ⟨(blk_cell BK171.out 0).trans rfl, (blk_cell BK171.out 1).trans rfl, (blk_cell BK171.out 2).trans rfl⟩ (fun hHeld => ?_)
                clear hK K
                refine norm_ (a' := ?_) ?_ ?_
                rotate_left
                · show Act.put _ (some 26) _ = _
                  simp only [Act.put, List.setIfInBounds_toArray, List.set_cons_zero, List.set_cons_succ, i64_w, i32_w]
                  rfl
                refine one_ (i := 6) (N := some 27) #[true, true, true, true, true, true, true, false, false, false] rfl rfl (one_of HT_.out (by kernel_rfl)) (by decide) (fun K hK => ?_)
                refine value_ (w1 := ?_) (v := ?_) (by rfl) rfl ?_ ?_
                rotate_left 2
                · go_simp
                  constructor
                  · rfl
                  · rfl
                refine hK.out _ _ ⟨(blk_cell (blk_alloc BK171.out _) 0).trans rfl, (blk_cell (blk_alloc BK171.out _) 1).trans rfl, (blk_cell (blk_alloc BK171.out _) 2).trans rfl⟩ (fun hHeld => ?_)
                clear hK K
                refine norm_ (a' := ?_) ?_ ?_
                rotate_left
                · show Act.put _ (some 27) _ = _
                  simp only [Act.put, List.setIfInBounds_toArray, List.set_cons_zero, List.set_cons_succ, i64_w, i32_w]
                  rfl
                refine one_ (i := 7) (N := some 28) #[true, true, true, true, true, true, true, true, false, false] rfl rfl (one_of HT_.out (by kernel_rfl)) (by decide) (fun K hK => ?_)
                refine Kd.R_append_step (Kd.int .i64) (w0 := w) w.heap.size (by rfl) (.tmp 22) (.tmp 27) 22 3 (.int .i64 0) 8 rfl Try.underlying22 info3 rfl (by decide) (by omega) u172002 x172002_2 t172 [.int .i64 t172] (fun _ => True) (fun _ => False) rfl rfl ?aP (fun _ hk => hk.elim) ?aF ?aO ?aB ?aS ?aL ?_
                (case aP => exact rfl)
                (case aB => exact (by repeat (first | (with_reducible first | exact HB.out | apply below_alloc | apply pw_below_drewN | apply below_drew1 | refine below_set ?_ GE170.out | refine below_set ?_ GE171.out) | exact HB.out)))
                (case aF => exact (fun _ _ => trivial))
                (case aO => exact (by (with_reducible repeat (first | apply Kd.R_alloc | apply Kd.R_drewN | apply Kd.R_drew)); exact HO_172002.out))
                (case aS => exact (below_size (by repeat (first | (with_reducible first | exact HB.out | apply below_alloc | apply pw_below_drewN | apply below_drew1 | refine below_set ?_ GE170.out | refine below_set ?_ GE171.out) | exact HB.out))))
                (case aL => have := LMc11.out; omega)
                intro v174 w14 ho hb hg hat
                rw [← Ny173.out] at ho
                have n0_ := Aside0.mk (blk_grown (g := gb170) (o := .cells #[.int .i64 0, .int .i64 0, .slice none 0 0] 29 (0, 0)) (by (with_reducible repeat (first | refine blk_drewN ?_ _ | refine blk_drew ?_ | refine blk_alloc ?_ _)); exact BK170.out) hg (Kd.R_ne HO_172002.out BK170.out (by decide)))
                have n1_ := Aside0.mk (blk_grown (g := gb171) (o := .cells #[.int .i64 a0, .int .i64 a1, u172002] 29 (0, 0)) (by (with_reducible repeat (first | refine blk_drewN ?_ _ | refine blk_drew ?_ | refine blk_alloc ?_ _)); exact BK171.out) hg (Kd.R_ne HO_172002.out BK171.out (by decide)))
                have n2_ := Aside0.mk (hb)
                have n3_ := Aside0.mk (ho)
                clear BK170
                clear BK171
                clear HB
                clear HO_172002
                have BK170 := n0_
                have BK171 := n1_
                have HB := n2_
                have HO175 := n3_
                clear n0_ n1_ n2_ n3_
                clear ho hb hg hat
                obtain ⟨Ao15, co15, eo15⟩ := Kd.R_slice HO175.out
                (first | subst eo15 | (injection eo15 with f1_ f2_ f3_; have f4_ := f1_.symm; have f5_ := f3_.symm; clear f1_ f2_ f3_; subst f4_; subst f5_))
                refine hK.out _ _ ⟨(blk_cell BK171.out 0).trans rfl, (blk_cell BK171.out 1).trans rfl, (blk_cell BK171.out 2).trans rfl⟩ (fun hHeld => ?_)
                clear hK K
                refine norm_ (a' := ?_) ?_ ?_
                rotate_left
                · show Act.put _ (some 28) _ = _
                  simp only [Act.put, List.setIfInBounds_toArray, List.set_cons_zero, List.set_cons_succ, i64_w, i32_w]
                  rfl
                refine pure_ (i := 8) (N := some 29) (v := ?_) (a' := ?_) #[true, true, true, true, true, true, true, true, true, false] rfl rfl (any_of HT_.out (by kernel_rfl)) (fun _ _ _ h => h) (Or.inl ⟨by rfl, ?_⟩) ?_ ?_
                rotate_left
                · intro w'
                  go_simp
                  with_reducible rfl
                rotate_left
                · simp only [Act.put, List.setIfInBounds_toArray, List.set_cons_zero, List.set_cons_succ, i64_w, i32_w]
                  rfl
                refine last_ (i := 9) (N := none) #[true, true, true, true, true, true, true, true, true, true] rfl rfl (one_of HT_.out (by kernel_rfl)) (by decide) (fun K hK => ?_)
                have hs16 : w14.cell? ⟨gb171, 2, none⟩ = some (u172002) := (blk_cell BK171.out 2).trans rfl
                have hfs16 := blk_frozen BK171.out 2
                have hns16_0 := NB170_171.out
                have hms16_0 := NB171_170.out
                refine skip_ (w1 := ?_) (by rfl) rfl ?_ ?_
                rotate_left
                · go_simp
                  rfl
                refine hK.out _ _ ?_
                clear hK K
                refine done_ (done_of HT_.out (by kernel_rfl)) ?_
                try go_wp2
                go_roundg k2
                case measure => have := HK1.out; have := HK2.out; omega
                case rel => exact ⟨(wrap64 (x18_2 + 1)), (y173), (.slice Ao15 y173.length co15), (by first | rfl | (simp; done) | (simp [*]; done)), H', ⟨by have := HK1.out; have := HK2.out; omega⟩, ⟨by (with_reducible repeat (first | apply Kd.R_alloc | apply Kd.R_drewN | apply Kd.R_drew)); exact Kd.R_mono (Kd.R_far (p := ⟨gb171, 2, none⟩) (Kd.R_types HO175.out BK171.out (by decide)) (fun _ hk => hk.2) (.slice Ao15 y173.length co15)) (fun _ hk => trivial)⟩, ⟨by (with_reducible repeat (first | refine blk_drewN ?_ _ | refine blk_drew ?_ | refine blk_alloc ?_ _)); refine blk_far ?_ NB170_171.out _; (with_reducible repeat (first | refine blk_drewN ?_ _ | refine blk_drew ?_ | refine blk_alloc ?_ _)); exact BK170.out⟩, ⟨by (with_reducible repeat (first | refine blk_drewN ?_ _ | refine blk_drew ?_ | refine blk_alloc ?_ _)); refine blk_put (cs := #[.int .i64 a0, .int .i64 a1, u172002]) ?_ 2 _ rfl; (with_reducible repeat (first | refine blk_drewN ?_ _ | refine blk_drew ?_ | refine blk_alloc ?_ _)); exact BK171.out⟩, ⟨by repeat (first | (with_reducible first | exact HB.out | apply below_alloc | apply pw_below_drewN | apply below_drew1 | refine below_set ?_ GE170.out | refine below_set ?_ GE171.out) | exact HB.out)⟩⟩
              · rw [if_neg c11] at H
                exact absurd H (by simp)
            · rw [if_neg c9] at H
              have c9b0 : decide (x18_2 < a0) = false := decide_eq_false c9
              clear c9
              have H' := Aside0.mk H
              clear H
              go_wp2
              go_roundg k2
              case measure => have := HK1.out; have := HK2.out; omega
              case rel => exact ⟨(wrap64 (x14_1 + 1)), (x172002_2), (u172002), (by first | rfl | (simp; done) | (simp [*]; done)), H', ⟨by have := HK1.out; have := HK2.out; omega⟩, ⟨by (with_reducible repeat (first | apply Kd.R_alloc | apply Kd.R_drewN | apply Kd.R_drew)); exact HO_172002.out⟩, ⟨by (with_reducible repeat (first | refine blk_drewN ?_ _ | refine blk_drew ?_ | refine blk_alloc ?_ _)); exact BK170.out⟩, ⟨by (with_reducible repeat (first | refine blk_drewN ?_ _ | refine blk_drew ?_ | refine blk_alloc ?_ _)); exact BK171.out⟩, ⟨by repeat (first | (with_reducible first | exact HB.out | apply below_alloc | apply pw_below_drewN | apply below_drew1 | refine below_set ?_ GE170.out | refine below_set ?_ GE171.out) | exact HB.out)⟩⟩
      · rw [if_neg c8] at H
        have c8b0 : decide (x14_1 < a1) = false := decide_eq_false c8
        clear c8
        simp only [Option.some.injEq, Prod.mk.injEq] at H
        obtain ⟨rfl, rfl, rfl⟩ := H
        have hnb17 := NB171_170.out
        have hnc17 := NB170_171.out
        have hcz18_0 : wr.cell? ⟨gb171, 0, none⟩ = some (.int .i64 a0) := (blk_cell BK171.out 0).trans rfl
        have hcz18_1 : wr.cell? ⟨gb171, 1, none⟩ = some (.int .i64 a1) := (blk_cell BK171.out 1).trans rfl
        have hcz18_2 : wr.cell? ⟨gb171, 2, none⟩ = some (u172002) := (blk_cell BK171.out 2).trans rfl
        have hfz18_0 := blk_frozen BK171.out 0
        have hfz18_1 := blk_frozen BK171.out 1
        have hfz18_2 := blk_frozen BK171.out 2
        have hcz19_0 : wr.cell? ⟨gb170, 0, none⟩ = some (.int .i64 0) := (blk_cell BK170.out 0).trans rfl
        have hcz19_1 : wr.cell? ⟨gb170, 1, none⟩ = some (.int .i64 0) := (blk_cell BK170.out 1).trans rfl
        have hcz19_2 : wr.cell? ⟨gb170, 2, none⟩ = some (.slice none 0 0) := (blk_cell BK170.out 2).trans rfl
        have hfz19_0 := blk_frozen BK170.out 0
        have hfz19_1 := blk_frozen BK170.out 1
        have hfz19_2 := blk_frozen BK170.out 2
        obtain ⟨Ao20, co20, eo20⟩ := Kd.R_slice HO_172002.out
        subst eo20
        go_wp2
        refine bodyPost_ret (results_cell_row rfl _ _ gb170 29 #[.int .i64 a0, .int .i64 a1, .slice Ao20 x172002_1.length co20] (0, 0) _ rfl (by (with_reducible repeat (first | refine blk_drewN ?_ _ | refine blk_drew ?_ | refine blk_alloc ?_ _)); refine blk_put (cs := #[.int .i64 a0, .int .i64 a1, .slice none 0 0]) ?_ 2 _ rfl; (with_reducible repeat (first | refine blk_drewN ?_ _ | refine blk_drew ?_ | refine blk_alloc ?_ _)); refine blk_put (cs := #[.int .i64 a0, .int .i64 0, .slice none 0 0]) ?_ 1 _ rfl; (with_reducible repeat (first | refine blk_drewN ?_ _ | refine blk_drew ?_ | refine blk_alloc ?_ _)); refine blk_put (cs := #[.int .i64 0, .int .i64 0, .slice none 0 0]) ?_ 0 _ rfl; (with_reducible repeat (first | refine blk_drewN ?_ _ | refine blk_drew ?_ | refine blk_alloc ?_ _)); exact BK170.out) Try.underlying29 rfl (by kernel_rfl)) rfl ?_
        exact ⟨_, by first | rfl | (simp [errW_none, errW_some] <;> rfl) | (simp [*, errW_none, errW_some] <;> rfl), by (with_reducible repeat (first | apply Kd.R_alloc | apply Kd.R_drewN | apply Kd.R_drew)); exact Kd.R_mono (Kd.R_far (p := ⟨gb170, 2, none⟩) (Kd.R_far (p := ⟨gb170, 1, none⟩) (Kd.R_far (p := ⟨gb170, 0, none⟩) (Kd.R_types HO_172002.out BK170.out (by decide)) (fun _ hk => hk.2) (.int .i64 a0)) (fun _ hk => hk.2) (.int .i64 a1)) (fun _ hk => hk.2) (.slice Ao20 x172002_1.length co20)) (fun _ hk => trivial), by repeat (first | (with_reducible first | exact HB.out | apply below_alloc | apply pw_below_drewN | apply below_drew1 | refine below_set ?_ GE170.out | refine below_set ?_ GE171.out) | exact HB.out)⟩





theorem bcell_ {W w1 : World} (hb : Below W.heap.size W w1) : (∀ b o, b < W.heap.size → w1.cell? ⟨b, o, none⟩ = W.cell? ⟨b, o, none⟩) ∧ (∀ b o, b < W.heap.size → w1.frozen? ⟨b, o, none⟩ = W.frozen? ⟨b, o, none⟩) :=
  ⟨fun b o h => hb.cell (p := ⟨b, o, none⟩) h, fun b o h => hb.frozen (p := ⟨b, o, none⟩) h⟩

def chartL (g : Int → Int → Int) (w h : Int) : List Int := (List.range h.toNat).flatMap fun (r : Nat) => (List.range w.toNat).map fun (c : Nat) => g r c
theorem R_old {α : Type} {d : Kd α} {e base : Nat} {w1 : World} {ok : Nat → Prop} {v : Value} {xs : List α} (h : d.R e w1 base ok v xs) {p : Addr} (hp : p.block < base) (u : Value) : d.R e (w1.setCell p u) base ok v xs :=
  Kd.R_mono (Kd.R_far (Kd.R_mono (ok' := fun k => ok k ∧ base ≤ k) (Kd.R_bound h) (fun k hk => ⟨hk.1, hk.2.1⟩)) (fun k hk => by have := hk.2; omega) u) (fun k hk => hk.1)

/-- The inner loop comes to the row's end. -/
theorem makeChart_row (OF : Int → Int → Option Int) (g : Int → Int → Int) (w h r1 : Int) (a b : Int) (res : Int × Int × List Int) (hw : w ≤ 64) (hg : ∀ c, 0 ≤ c → c < w → OF r1 c = some (g r1 c)) (d : Nat) :
    ∀ (c0 : Int) (acc : List Int), 0 ≤ c0 → c0 + d = w → acc.length + d ≤ 100000 →
    (∃ k, impl_makeChart.l0 OF k w h (wrap64 (r1 + 1)) a b (acc ++ (List.range d).map fun (c : Nat) => g r1 (c0 + c)) = some res) → ∃ k, impl_makeChart.l1 OF k w r1 h r1 w c0 a b acc = some res := by
  induction d with
  | zero =>
    intro c0 acc h0 h1 hl ⟨k, hk⟩
    refine ⟨k + 1, ?_⟩
    simp only [impl_makeChart.l1]
    rw [if_neg (by omega)]
    simpa using hk
  | succ d ih =>
    intro c0 acc h0 h1 hl ⟨k, hk⟩
    have e : acc ++ (List.range (d + 1)).map (fun (c : Nat) => g r1 (c0 + c)) = (acc ++ [g r1 c0]) ++ (List.range d).map fun (c : Nat) => g r1 (c0 + 1 + c) := by
      rw [List.range_succ_eq_map]
      simp only [List.map_cons, List.map_map, List.append_assoc, List.singleton_append, Int.natCast_zero, Int.add_zero]
      congr 2
      apply List.map_congr_left
      intro c _
      simp only [Function.comp]
      congr 1
      omega
    rw [e] at hk
    obtain ⟨k2, hk2⟩ := ih (c0 + 1) (acc ++ [g r1 c0]) (by omega) (by omega) (by simp; omega) ⟨k, hk⟩
    refine ⟨k2 + 1, ?_⟩
    simp only [impl_makeChart.l1]
    rw [if_pos (by omega), hg c0 h0 (by omega), Option.bind_some, if_pos (by omega), show wrap64 (c0 + 1) = c0 + 1 by unfold wrap64; omega]
    exact hk2
theorem makeChart_rows (OF : Int → Int → Option Int) (g : Int → Int → Int) (w h : Int) (a b : Int) (h0w : 0 ≤ w) (hw : w ≤ 64) (hh : h ≤ 64) (hg : ∀ r c, 0 ≤ r → r < h → 0 ≤ c → c < w → OF r c = some (g r c)) (d : Nat) :
    ∀ (r0 : Int) (acc : List Int), 0 ≤ r0 → r0 + d = h → acc.length + d * 64 ≤ 90000 →
    ∃ k, impl_makeChart.l0 OF k w h r0 a b acc = some (a, b, acc ++ (List.range d).flatMap fun (r : Nat) => (List.range w.toNat).map fun (c : Nat) => g (r0 + r) c) := by
  induction d with
  | zero =>
    intro r0 acc h0 h1 hl
    refine ⟨1, ?_⟩
    simp only [impl_makeChart.l0]
    rw [if_neg (by omega)]
    simp
  | succ d ih =>
    intro r0 acc h0 h1 hl
    obtain ⟨k, hk⟩ := ih (r0 + 1) (acc ++ (List.range w.toNat).map fun (c : Nat) => g r0 c) (by omega) (by omega) (by simp; omega)
    have hw1 : wrap64 (r0 + 1) = r0 + 1 := by unfold wrap64; omega
    obtain ⟨k2, hk2⟩ := makeChart_row OF g w h r0 a b (a, b, acc ++ (List.range (d + 1)).flatMap fun (r : Nat) => (List.range w.toNat).map fun (c : Nat) => g (r0 + r) c) hw (fun c hc hc2 => hg r0 c h0 (by omega) hc hc2) w.toNat 0 acc (by omega) (by omega) (by omega) ⟨k, by
      rw [hw1]
      simp only [Int.zero_add]
      rw [hk, List.range_succ_eq_map]
      simp only [List.flatMap_cons, List.flatMap_map, List.append_assoc, Int.natCast_zero, Int.add_zero]
      congr 5
      congr 1
      funext r
      apply List.map_congr_left
      intro c _
      congr 1
      simp only [Nat.succ_eq_add_one]
      omega⟩
    refine ⟨k2 + 1, ?_⟩
    simp only [impl_makeChart.l0]
    rw [if_pos (by omega)]
    exact hk2
theorem makeChart_val (OF : Int → Int → Option Int) (g : Int → Int → Int) (w h : Int) (h0w : 0 ≤ w) (hw : w ≤ 64) (h0h : 0 ≤ h) (hh : h ≤ 64) (hg : ∀ r c, 0 ≤ r → r < h → 0 ≤ c → c < w → OF r c = some (g r c)) :
    ∃ k, impl_makeChart.f OF k w h = some (w, h, chartL g w h) := by
  obtain ⟨k, hk⟩ := makeChart_rows OF g w h w h h0w hw hh hg h.toNat 0 [] (by omega) (by omega) (by simp; omega)
  refine ⟨k, ?_⟩
  unfold impl_makeChart.f chartL
  rw [hk]
  simp

theorem at_go (wd ht : Int) (A : Option Addr) (c : Nat) (l : List Int) (r k m : Int) (W : World) (hr : Kd.C (Kd.int .i64) W A l.length l) (hm : wrap64 (r * wd) = m) (h0 : 0 ≤ m) (h1 : m ≤ 1000) (h2 : 0 ≤ k) (h3 : k ≤ 1000) (h4 : m + k < l.length) :
    Calls Try.prog 48 #[.agg #[.int .i64 wd, .int .i64 ht, .slice A l.length c], .int .i64 r, .int .i64 k] W fun e w' => e = .returned (.int .i64 (rd l (m + k))) ∧ Below W.heap.size W w' := by
  have hu24 := Try.underlying29
  have hmax := Kd.C_max hr
  obtain ⟨ad, e, hx⟩ := Kd.at_int hr (m + k) (by omega) h4
  cases e
  have hx2 := World.block_lt_of_cell? W _ hx
  have hx3 : (W.alloc (.cells #[.int .i64 wd, .int .i64 ht, .slice (some ad) l.length c] 29)).cell? (ad.add (m + k).toNat) = some (.int .i64 (rd l (m + k))) := (World.cell?_alloc_lt _ _ _ hx2).trans hx
  have p1 := eq_true (show 0 ≤ m + k by omega)
  have q1 := eq_true h4
  clear hr hx hx2
  go_enter Try.func48, Try.ntmps48
  go_wp2
  go_ret
  exact ⟨rfl, (Below.refl _ W).alloc (Nat.le_refl _) _⟩

theorem mul_le64 {r wd : Int} (h0 : 0 ≤ r) (h1 : r ≤ 8) (h2 : 0 ≤ wd) (h3 : wd ≤ 8) : 0 ≤ r * wd ∧ r * wd ≤ 64 := by
  have c : r = 0 ∨ r = 1 ∨ r = 2 ∨ r = 3 ∨ r = 4 ∨ r = 5 ∨ r = 6 ∨ r = 7 ∨ r = 8 := by omega
  rcases c with rfl | rfl | rfl | rfl | rfl | rfl | rfl | rfl | rfl <;> omega

theorem cell_top {W : World} {cs : Array Value} {t b i : Nat} {v : Value} (hb : b = W.heap.size) (hv : cs[i]? = some v) : (W.alloc (.cells cs t)).cell? ⟨b, i, none⟩ = some v := by
  subst hb
  simp [hv]

theorem part_lt {wd ht : Int} {r k : Int} (h0 : 0 ≤ r) (h1 : r < ht) (h2 : k < wd) (h3 : 0 ≤ k) (h4 : wd ≤ 8) (h5 : ht ≤ 8) : r * wd + k < wd * ht := by
  have c : wd = 1 ∨ wd = 2 ∨ wd = 3 ∨ wd = 4 ∨ wd = 5 ∨ wd = 6 ∨ wd = 7 ∨ wd = 8 := by omega
  rcases c with rfl | rfl | rfl | rfl | rfl | rfl | rfl | rfl <;> omega

theorem mk_go (g : Int → Int → Int) (wd ht : Int) (f : Nat) (lb : Array Value) (ef : ∀ args w, (callFunc f args).run Try.prog w = .ok (.enter f args) w) (w : World) (h0 : 0 ≤ wd) (h1 : wd ≤ 64) (h2 : 0 ≤ ht) (h3 : ht ≤ 64)
    (hF : ∀ (W : World) (x y : Int), Below w.heap.size w W → 0 ≤ x → x < ht → 0 ≤ y → y < wd → Calls Try.prog f (#[.int .i64 x, .int .i64 y] ++ lb) W fun e w' => e = .returned (.int .i64 (g x y)) ∧ Below W.heap.size W w') :
    Calls Try.prog 46 #[.int .i64 wd, .int .i64 ht, .func (.func f) #[] lb] w fun e w' => ∃ v2_ : Value, e = .returned (.agg #[.int .i64 wd, .int .i64 ht, v2_]) ∧ Kd.R (Kd.int .i64) 3 w' w.heap.size (fun _ => True) v2_ (chartL g wd ht) ∧ Below w.heap.size w w' := by
  obtain ⟨k, hk⟩ := makeChart_val (fun i k => if 0 ≤ i ∧ i < ht ∧ 0 ≤ k ∧ k < wd then some (g i k) else none) g wd ht h0 h1 h2 h3 (fun r c a b c' d => if_pos ⟨a, b, c', d⟩)
  refine impl_makeChart.calls _ f lb ef k wd ht wd ht _ w (fun W x y t hb ht2 => ?_) hk
  by_cases hx : 0 ≤ x ∧ x < ht ∧ 0 ≤ y ∧ y < wd
  · (try dsimp only at ht2)
    rw [if_pos hx] at ht2
    obtain rfl := Option.some.inj ht2
    exact hF W x y hb hx.1 hx.2.1 hx.2.2.1 hx.2.2.2
  · (try dsimp only at ht2)
    rw [if_neg hx] at ht2
    cases ht2
def copiesB (side n : Int) : Bool := decide (1 ≤ n) && decide (n ≤ 8 / side)
theorem copies_le {s n : Int} (h1 : 1 ≤ s) (h2 : s ≤ 8) (h : copiesB s n = true) : 1 ≤ n ∧ n ≤ 8 ∧ 1 ≤ s * n ∧ s * n ≤ 8 := by
  unfold copiesB at h
  simp only [Bool.and_eq_true, decide_eq_true_eq] at h
  obtain ⟨h3, h4⟩ := h
  have c : s = 1 ∨ s = 2 ∨ s = 3 ∨ s = 4 ∨ s = 5 ∨ s = 6 ∨ s = 7 ∨ s = 8 := by omega
  rcases c with rfl | rfl | rfl | rfl | rfl | rfl | rfl | rfl <;> omega
theorem chartL_len (g : Int → Int → Int) {w h : Int} (a : 0 ≤ w) (b : 0 ≤ h) : ((chartL g w h).length : Int) = w * h := by
  simp only [chartL, List.length_flatMap, List.length_map, List.length_range, List.map_const', List.sum_replicate_nat]
  rw [Int.natCast_mul, Int.toNat_of_nonneg (by omega), Int.toNat_of_nonneg (by omega), Int.mul_comm]
theorem mod_in {x m : Int} (h0 : 0 ≤ x) (h1 : 1 ≤ m) : 0 ≤ x % m ∧ x % m < m := by
  exact ⟨Int.emod_nonneg _ (by omega), Int.emod_lt_of_pos _ (by omega)⟩

theorem isChart_true {w h : Int} {l : List Int} (e : impl_IsChart.f w h l = some true) : 1 ≤ w ∧ w ≤ 8 ∧ 1 ≤ h ∧ h ≤ 8 ∧ (l.length : Int) = w * h := by
  unfold impl_IsChart.f at e
  have e := Option.some.inj e
  by_cases h1 : 1 ≤ w ∧ w ≤ 8
  · rw [if_pos h1] at e
    by_cases h2 : 1 ≤ h ∧ h ≤ 8
    · rw [if_pos h2] at e
      by_cases h3 : (l.length : Int) = wrap64 (w * h)
      · obtain ⟨a, b⟩ := h1
        obtain ⟨c, d⟩ := h2
        refine ⟨a, b, c, d, h3.trans ?_⟩
        have := mul_le64 (r := w) (wd := h) (by omega) b (by omega) d
        unfold wrap64
        omega
      · rw [if_neg h3] at e
        cases e
    · rw [if_neg h2] at e
      cases e
  · rw [if_neg h1] at e
    cases e


end Go.Proofs.Ytpbipijjihbjhaa.G
