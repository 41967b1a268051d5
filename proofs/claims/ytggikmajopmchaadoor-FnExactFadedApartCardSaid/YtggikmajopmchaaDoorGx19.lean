-- Printed by a program of this session (wip/tools/gp.sh); Lean checks it.
import Derived.Test.YtggikmajopmchaaDoorGx0
import Derived.Test.YtggikmajopmchaaDoorGz
import Derived.Test.YtggikmajopmchaaDoorGx1
import Derived.Test.YtggikmajopmchaaDoorGx14
import Derived.Test.YtggikmajopmchaaDoorGx17
import Derived.Test.YtggikmajopmchaaDoorGx18
namespace Go.Proofs.YtggikmajopmchaaDoor.G
open Go.RowKit Go.Proofs.YtggikmajopmchaaDoorW.PrintWords Go.Proofs.YtggikmajopmchaaDoorW.PrintLast Go.Proofs.YtggikmajopmchaaDoorW.PrintMore
attribute [local go_sem] isSome_setCell_ max2_int min2_int max_two min_two max_three min_three max_four min_four   -- for this text's walks alone
set_option linter.unusedVariables false
set_option linter.unusedSimpArgs false

/-! ### impl_FadedApart: function 8 -/
mutual
def impl_FadedApart.j0 : Nat → List (S42) → Int → Int → Bool → Option ((List (List Int)) × Bool)
 | 0, _, _, _, _ => none
 | k + 1, x0, x1, x2, x25 => if x25 = true then (some (([] : List (List Int)), false)) else (impl_FadedApart.l0 k x0 x1 x2 (([] : List (List Int))) x0 (x0.length : Int) 0)
def impl_FadedApart.l0 : Nat → List (S42) → Int → Int → List (List Int) → List (S42) → Int → Int → Option ((List (List Int)) × Bool)
 | 0, _, _, _, _, _, _, _ => none
 | k + 1, x0, x1, x2, x8, x27, x28, x29 => if x29 < x28 then (if 0 ≤ x29 then (if x29 < (x27.length : Int) then (if 0 ≤ (wrap64 (x29 + 1)) then (if (wrap64 (x29 + 1)) ≤ (x0.length : Int) then ((some (x0.drop ((wrap64 (x29 + 1)) : Int).toNat : List (S42))).bind fun y314 => (impl_FadedApart.l1 k x0 x1 x2 x8 x27 x28 x29 y314 (y314.length : Int) 0 ((rd_T42 x27 x29).f0) ((rd_T42 x27 x29).f1) ((rd_T42 x27 x29).f2) ((rd_T42 x27 x29).f3) ((rd_T42 x27 x29).f4))) else (none)) else (none)) else (none)) else (none)) else (some (x8, true))
def impl_FadedApart.l1 : Nat → List (S42) → Int → Int → List (List Int) → List (S42) → Int → Int → List (S42) → Int → Int → Int → ByteArray → Int → Int → Int → Option ((List (List Int)) × Bool)
 | 0, _, _, _, _, _, _, _, _, _, _, _, _, _, _, _ => none
 | k + 1, x0, x1, x2, x8, x27, x28, x29, x37, x38, x39, x314000, x314001, x314002, x314003, x314004 => if x39 < x38 then (if 0 ≤ x39 then (if x39 < (x37.length : Int) then ((impl_Shade_distance.f x314000 x314001 x314002 x314003 x314004 ((rd_T42 x37 x39).f0) ((rd_T42 x37 x39).f1) ((rd_T42 x37 x39).f2) ((rd_T42 x37 x39).f3) ((rd_T42 x37 x39).f4)).bind fun t320 => (if t320 ≥ x2 then ((impl_Shade_faded.f x314000 x314001 x314002 x314003 x314004 x1).bind fun bt321 => ((impl_Shade_faded.f ((rd_T42 x37 x39).f0) ((rd_T42 x37 x39).f1) ((rd_T42 x37 x39).f2) ((rd_T42 x37 x39).f3) ((rd_T42 x37 x39).f4) x1).bind fun bt326 => ((impl_Shade_distance.f bt321.1 bt321.2.1 bt321.2.2.1 bt321.2.2.2.1 bt321.2.2.2.2 bt326.1 bt326.2.1 bt326.2.2.1 bt326.2.2.2.1 bt326.2.2.2.2).bind fun t331 => (if t331 < x2 then (if x8.length < 5864062014805 then (impl_FadedApart.l1 k x0 x1 x2 (x8 ++ [(([x314000, (rd_T42 x37 x39).f0] : List Int))]) x27 x28 x29 x37 x38 (wrap64 (x39 + 1)) x314000 x314001 x314002 x314003 x314004) else (none)) else (impl_FadedApart.l1 k x0 x1 x2 x8 x27 x28 x29 x37 x38 (wrap64 (x39 + 1)) x314000 x314001 x314002 x314003 x314004))))) else (impl_FadedApart.l1 k x0 x1 x2 x8 x27 x28 x29 x37 x38 (wrap64 (x39 + 1)) x314000 x314001 x314002 x314003 x314004))) else (none)) else (none)) else (impl_FadedApart.l0 k x0 x1 x2 x8 x27 x28 (wrap64 (x29 + 1)))
end
def impl_FadedApart.f (k : Nat) (l0 : List (S42)) (a1 : Int) (a2 : Int) : Option ((List (List Int)) × Bool) := (impl_IsShadeCard.f k l0).bind fun t306 => (if t306 = true then ((impl_isYears.f a1).bind fun t307 => (if t307 = true then ((impl_in.f a2 0 33).bind fun t308 => (impl_FadedApart.j0 k l0 a1 a2 (!t308))) else (impl_FadedApart.j0 k l0 a1 a2 true))) else (impl_FadedApart.j0 k l0 a1 a2 true))
theorem impl_FadedApart.mono_l : ∀ k, (∀ y0 y1 y2 y3, LeO (impl_FadedApart.j0 k y0 y1 y2 y3) (impl_FadedApart.j0 (k + 1) y0 y1 y2 y3)) ∧ (∀ y0 y1 y2 y3 y4 y5 y6, LeO (impl_FadedApart.l0 k y0 y1 y2 y3 y4 y5 y6) (impl_FadedApart.l0 (k + 1) y0 y1 y2 y3 y4 y5 y6)) ∧ (∀ y0 y1 y2 y3 y4 y5 y6 y7 y8 y9 y10 y11 y12 y13 y14, LeO (impl_FadedApart.l1 k y0 y1 y2 y3 y4 y5 y6 y7 y8 y9 y10 y11 y12 y13 y14) (impl_FadedApart.l1 (k + 1) y0 y1 y2 y3 y4 y5 y6 y7 y8 y9 y10 y11 y12 y13 y14))
 | 0 => ⟨fun _ _ _ _ r h => by simp [impl_FadedApart.j0] at h, fun _ _ _ _ _ _ _ r h => by simp [impl_FadedApart.l0] at h, fun _ _ _ _ _ _ _ _ _ _ _ _ _ _ _ r h => by simp [impl_FadedApart.l1] at h⟩
 | k + 1 => by
  obtain ⟨ih0, ih1, ih2⟩ := impl_FadedApart.mono_l k
  refine ⟨?_, ?_, ?_⟩
  ·intro y0 y1 y2 y3
   unfold impl_FadedApart.j0
   repeat' first
   | (with_reducible exact ih0 _ _ _ _)
   | (with_reducible exact ih1 _ _ _ _ _ _ _)
   | (with_reducible exact ih2 _ _ _ _ _ _ _ _ _ _ _ _ _ _ _)
   | (with_reducible exact impl_IsShadeCard.mono _ _)
   | (with_reducible exact LeO.refl _)
   | (with_reducible exact LeO.none _)
   | (with_reducible refine LeO.ite ?_ ?_)
   | (with_reducible refine LeO.bind ?_ (fun _ => ?_))
   | exact ih0 _ _ _ _
   | exact ih1 _ _ _ _ _ _ _
   | exact ih2 _ _ _ _ _ _ _ _ _ _ _ _ _ _ _
   | exact impl_IsShadeCard.mono _ _
   | exact LeO.none _
   | refine LeO.ite ?_ ?_
   | refine LeO.bind ?_ (fun _ => ?_)
  ·intro y0 y1 y2 y3 y4 y5 y6
   unfold impl_FadedApart.l0
   repeat' first
   | (with_reducible exact ih0 _ _ _ _)
   | (with_reducible exact ih1 _ _ _ _ _ _ _)
   | (with_reducible exact ih2 _ _ _ _ _ _ _ _ _ _ _ _ _ _ _)
   | (with_reducible exact impl_IsShadeCard.mono _ _)
   | (with_reducible exact LeO.refl _)
   | (with_reducible exact LeO.none _)
   | (with_reducible refine LeO.ite ?_ ?_)
   | (with_reducible refine LeO.bind ?_ (fun _ => ?_))
   | exact ih0 _ _ _ _
   | exact ih1 _ _ _ _ _ _ _
   | exact ih2 _ _ _ _ _ _ _ _ _ _ _ _ _ _ _
   | exact impl_IsShadeCard.mono _ _
   | exact LeO.none _
   | refine LeO.ite ?_ ?_
   | refine LeO.bind ?_ (fun _ => ?_)
  ·intro y0 y1 y2 y3 y4 y5 y6 y7 y8 y9 y10 y11 y12 y13 y14
   unfold impl_FadedApart.l1
   repeat' first
   | (with_reducible exact ih0 _ _ _ _)
   | (with_reducible exact ih1 _ _ _ _ _ _ _)
   | (with_reducible exact ih2 _ _ _ _ _ _ _ _ _ _ _ _ _ _ _)
   | (with_reducible exact impl_IsShadeCard.mono _ _)
   | (with_reducible exact LeO.refl _)
   | (with_reducible exact LeO.none _)
   | (with_reducible refine LeO.ite ?_ ?_)
   | (with_reducible refine LeO.bind ?_ (fun _ => ?_))
   | exact ih0 _ _ _ _
   | exact ih1 _ _ _ _ _ _ _
   | exact ih2 _ _ _ _ _ _ _ _ _ _ _ _ _ _ _
   | exact impl_IsShadeCard.mono _ _
   | exact LeO.none _
   | refine LeO.ite ?_ ?_
   | refine LeO.bind ?_ (fun _ => ?_)
theorem impl_FadedApart.mono : ∀ a0 a1 a2 k, LeO (impl_FadedApart.f k a0 a1 a2) (impl_FadedApart.f (k + 1) a0 a1 a2) := by
 intro a0 a1 a2 k
 obtain ⟨ih0, ih1, ih2⟩ := impl_FadedApart.mono_l k
 unfold impl_FadedApart.f
 repeat' first
   | (with_reducible exact ih0 _ _ _ _)
   | (with_reducible exact ih1 _ _ _ _ _ _ _)
   | (with_reducible exact ih2 _ _ _ _ _ _ _ _ _ _ _ _ _ _ _)
   | (with_reducible exact impl_IsShadeCard.mono _ _)
   | (with_reducible exact LeO.refl _)
   | (with_reducible exact LeO.none _)
   | (with_reducible refine LeO.ite ?_ ?_)
   | (with_reducible refine LeO.bind ?_ (fun _ => ?_))
   | exact ih0 _ _ _ _
   | exact ih1 _ _ _ _ _ _ _
   | exact ih2 _ _ _ _ _ _ _ _ _ _ _ _ _ _ _
   | exact impl_IsShadeCard.mono _ _
   | exact LeO.none _
   | refine LeO.ite ?_ ?_
   | refine LeO.bind ?_ (fun _ => ?_)
def impl_FadedApart.T10 : Bool × List (List Nat × List Nat) := (true, [([], []), ([], []), ([0, 1], [0, 1]), ([], []), ([2, 3], [2, 3]), ([4, 2], [4]), ([5], [5]), ([5], [5]), ([6, 7, 5, 5], [5, 6, 7]), ([5], [5]), ([5], [5]), ([9, 10, 8, 5], [5, 9, 10]), ([8, 11, 11, 5], [5, 8, 11]), ([5], [5]), ([12, 13, 5], [5, 12, 13]), ([5, 14], [5, 14])])
def impl_FadedApart.B10 : List Nat := [0, 0, 3, 0, 15, 31, 63, 63, 255, 63, 63, 2047, 4095, 63, 16383, 32767]
theorem impl_FadedApart.tab10 : rtab .any (opsOf Tryd.f8 10) = impl_FadedApart.T10 := by kernel_rfl
theorem impl_FadedApart.bits10 : waitsOk impl_FadedApart.T10.2 impl_FadedApart.B10 = true := by kernel_rfl
set_option maxHeartbeats 8000000 in
set_option maxRecDepth 100000 in
theorem impl_FadedApart.calls (k : Nat) (A0 : Option Addr) (c0 : Nat) (l0 : List (S42)) (a1 : Int) (a2 : Int) (r1 : List (List Int)) (r2 : Bool) (w : World) (hr0 : Kd.C k42 w A0 l0.length l0) (hc0 : l0.length ≤ c0) (h : impl_FadedApart.f k l0 a1 a2 = some (r1, r2)) :
  Calls Tryd.prog 8 #[.slice A0 l0.length c0, .int .i64 a1, .int .i64 a2] w fun e w' => ∃ v0_ : Value, e = .returned (.tuple #[v0_, .bool r2]) ∧ Kd.S (Kd.slice 3 (Kd.int .i64)) 45 w' w.heap.size (fun _ => True) v0_ r1 ∧ Below w.heap.size w w' := by
 have hu42 := Tryd.underlying42; have HR0 := zA hr0; have HC0 := zA hc0; clear hr0 hc0; have HB := zA (Below.refl w.heap.size w); have H : ((impl_IsShadeCard.f k l0).bind fun t306 => (if t306 = true then ((impl_isYears.f a1).bind fun t307 => (if t307 = true then ((impl_in.f a2 0 33).bind fun t308 => (impl_FadedApart.j0 k l0 a1 a2 (!t308))) else (impl_FadedApart.j0 k l0 a1 a2 true))) else (impl_FadedApart.j0 k l0 a1 a2 true))) = some (r1, r2) := h; clear h; have HC4 := zA H; clear H
 go_enter Tryd.func8, Tryd.ntmps8
 go_upto_region 1 with (fail)
 go_cut [25] (fun v25 wc => ∃ (kq : Nat) (x25_3 : Bool), v25 = .bool x25_3 ∧ Aside0 (impl_FadedApart.j0 kq l0 a1 a2 x25_3 = some (r1, r2)) ∧ Aside0 (kq ≤ k) ∧ Aside0 (Below w.heap.size w wc))
 case first =>
  have H := HC4.out; clear HC4
  replace H := Option.bind_eq_some_iff.mp H
  obtain ⟨t306, A50, H⟩ := H
  replace H : (if t306 = true then ((impl_isYears.f a1).bind fun t307 => (if t307 = true then ((impl_in.f a2 0 33).bind fun t308 => (impl_FadedApart.j0 k l0 a1 a2 (!t308))) else (impl_FadedApart.j0 k l0 a1 a2 true))) else (impl_FadedApart.j0 k l0 a1 a2 true)) = some (r1, r2) := H
  have A5 := zA A50; clear A50
  by_cases c6 : t306 = true
  ·subst c6
   have H1 : ((impl_isYears.f a1).bind fun t307 => (if t307 = true then ((impl_in.f a2 0 33).bind fun t308 => (impl_FadedApart.j0 k l0 a1 a2 (!t308))) else (impl_FadedApart.j0 k l0 a1 a2 true))) = some (r1, r2) := by rw [if_pos rfl] at H; exact H
   clear H; have H := H1; clear H1
   replace H := Option.bind_eq_some_iff.mp H
   obtain ⟨t307, A70, H⟩ := H
   replace H : (if t307 = true then ((impl_in.f a2 0 33).bind fun t308 => (impl_FadedApart.j0 k l0 a1 a2 (!t308))) else (impl_FadedApart.j0 k l0 a1 a2 true)) = some (r1, r2) := H
   have A7 := zA A70; clear A70
   by_cases c8 : t307 = true
   ·subst c8
    have H1 : ((impl_in.f a2 0 33).bind fun t308 => (impl_FadedApart.j0 k l0 a1 a2 (!t308))) = some (r1, r2) := by rw [if_pos rfl] at H; exact H
    clear H; have H := H1; clear H1
    replace H := Option.bind_eq_some_iff.mp H
    obtain ⟨t308, A90, H⟩ := H
    replace H : (impl_FadedApart.j0 k l0 a1 a2 (!t308)) = some (r1, r2) := H
    have A9 := zA A90; clear A90; have H' := zA H; clear H
    go_wp2_with (first | ((with_reducible refine gate_callee (f := 23) rfl ?_); refine goesL_ (some 14) rfl rfl Tryd.func23 (by kernel_rfl) rfl #[.slice A0 l0.length c0] rfl (zM) ?_; (with_reducible refine (impl_IsShadeCard.calls k _ _ l0 true _ ?side1 ?side2 A5.out).mono ?_); (case side1 => repeat (first | exact (Kd.C_below HR0.out HB.out) | (with_reducible refine Kd.C_alloc ?_ _) | (with_reducible refine Kd.C_drewN ?_ _) | (with_reducible refine Kd.C_drew ?_))); (case side2 => exact HC0.out); rintro e w10 ⟨rfl, hb⟩; refine ⟨_, rfl, ?_⟩; have n0_ := zA (below_step (zW HB) hb); clear HB; have HB := n0_; clear n0_; (try clear hb); (try clear hb2); (try clear hk); (try clear hi)) | (go_at_call 24; (with_reducible refine (impl_isYears.calls a1 true _ A7.out).mono ?_); rintro e w' ⟨rfl, ⟨nd, rfl⟩⟩) | (go_at_call 25; (with_reducible refine (impl_in.calls a2 0 33 t308 _ A9.out).mono ?_); rintro e w' ⟨rfl, ⟨nd, rfl⟩⟩))
    go_meet
    case rel => exact ⟨_, (!t308), (by first | rfl | (simp; done) | (simp [*]; done)), H', ⟨by first | omega | exact Nat.le_refl _⟩, ⟨by repeat (first | (with_reducible first | exact HB.out | apply below_alloc | apply pw_below_drewN | apply below_drew1) | exact HB.out)⟩⟩
   ·replace c8 := Bool.eq_false_iff.mpr c8
    subst c8
    have H1 : (impl_FadedApart.j0 k l0 a1 a2 true) = some (r1, r2) := by rw [if_neg (show ¬ (false = true) by decide)] at H; exact H
    clear H; have H := H1; clear H1; have H' := zA H; clear H
    go_wp2_with (first | ((with_reducible refine gate_callee (f := 23) rfl ?_); refine goesL_ (some 14) rfl rfl Tryd.func23 (by kernel_rfl) rfl #[.slice A0 l0.length c0] rfl (zM) ?_; (with_reducible refine (impl_IsShadeCard.calls k _ _ l0 true _ ?side1 ?side2 A5.out).mono ?_); (case side1 => repeat (first | exact (Kd.C_below HR0.out HB.out) | (with_reducible refine Kd.C_alloc ?_ _) | (with_reducible refine Kd.C_drewN ?_ _) | (with_reducible refine Kd.C_drew ?_))); (case side2 => exact HC0.out); rintro e w11 ⟨rfl, hb⟩; refine ⟨_, rfl, ?_⟩; have n0_ := zA (below_step (zW HB) hb); clear HB; have HB := n0_; clear n0_; (try clear hb); (try clear hb2); (try clear hk); (try clear hi)) | (go_at_call 24; (with_reducible refine (impl_isYears.calls a1 false _ A7.out).mono ?_); rintro e w' ⟨rfl, ⟨nd, rfl⟩⟩))
    go_meet
    case rel => exact ⟨_, (true), (by first | rfl | (simp; done) | (simp [*]; done)), H', ⟨by first | omega | exact Nat.le_refl _⟩, ⟨by repeat (first | (with_reducible first | exact HB.out | apply below_alloc | apply pw_below_drewN | apply below_drew1) | exact HB.out)⟩⟩
  ·replace c6 := Bool.eq_false_iff.mpr c6
   subst c6
   have H1 : (impl_FadedApart.j0 k l0 a1 a2 true) = some (r1, r2) := by rw [if_neg (show ¬ (false = true) by decide)] at H; exact H
   clear H; have H := H1; clear H1; have H' := zA H; clear H
   go_wp2_with (first | ((with_reducible refine gate_callee (f := 23) rfl ?_); refine goesL_ (some 14) rfl rfl Tryd.func23 (by kernel_rfl) rfl #[.slice A0 l0.length c0] rfl (zM) ?_; (with_reducible refine (impl_IsShadeCard.calls k _ _ l0 false _ ?side1 ?side2 A5.out).mono ?_); (case side1 => repeat (first | exact (Kd.C_below HR0.out HB.out) | (with_reducible refine Kd.C_alloc ?_ _) | (with_reducible refine Kd.C_drewN ?_ _) | (with_reducible refine Kd.C_drew ?_))); (case side2 => exact HC0.out); rintro e w12 ⟨rfl, hb⟩; refine ⟨_, rfl, ?_⟩; have n0_ := zA (below_step (zW HB) hb); clear HB; have HB := n0_; clear n0_; (try clear hb); (try clear hb2); (try clear hk); (try clear hi)))
   go_meet
   case rel => exact ⟨_, (true), (by first | rfl | (simp; done) | (simp [*]; done)), H', ⟨by first | omega | exact Nat.le_refl _⟩, ⟨by repeat (first | (with_reducible first | exact HB.out | apply below_alloc | apply pw_below_drewN | apply below_drew1) | exact HB.out)⟩⟩
 case rest =>
  clear HC4
  try clear c2; try clear p2; try clear c6; try clear c8
  obtain ⟨kq, x25_3, rfl, HA, HJ3, HB⟩ := hcut
  cases kq with
  | zero => exact absurd HA.out (by simp [impl_FadedApart.j0])
  | succ kj3 =>
   have H := HA.out; clear HA
   simp only [impl_FadedApart.j0] at H
   by_cases c13 : x25_3 = true
   ·subst c13
    have H1 : (some (([] : List (List Int)), false)) = some (r1, r2) := by rw [if_pos rfl] at H; exact H
    clear H; have H := H1; clear H1
    simp only [Option.some.injEq, Prod.mk.injEq] at H
    obtain ⟨rfl, rfl⟩ := H
    go_wp2
    go_ret2
    exact ⟨_, by first | rfl | (simp [errW_none, errW_some] <;> rfl) | (simp [*, errW_none, errW_some] <;> rfl), by first | exact Kd.S_nil _ _ _ _ _ | exact Kd.N_nil _ _ _ _ _ | exact Kd.V_nil _ _ _ _ _ | exact Kd.Q_nil _ _ _ _ _ | exact Kd.R_nil _ _ _ _ _, by repeat (first | (with_reducible first | exact HB.out | apply below_alloc | apply pw_below_drewN | apply below_drew1) | exact HB.out)⟩
   ·replace c13 := Bool.eq_false_iff.mpr c13
    subst c13
    have H1 : (impl_FadedApart.l0 kj3 l0 a1 a2 (([] : List (List Int))) l0 (l0.length : Int) 0) = some (r1, r2) := by rw [if_neg (show ¬ (false = true) by decide)] at H; exact H
    clear H; have H := H1; clear H1
    obtain ⟨y309, hy309⟩ : ∃ y_ : List (List Int), y_ = (([] : List (List Int))) := ⟨_, rfl⟩
    replace H : (impl_FadedApart.l0 kj3 l0 a1 a2 y309 l0 (l0.length : Int) 0) = some (r1, r2) := by first | (rw [hy309]; with_reducible exact H) | (have H2_ := (Option.bind_some _ _).symm.trans H; rw [hy309]; with_reducible exact H2_) | (have H2_ := (Option.bind_some _ _).symm.trans H; with_reducible exact H2_) | with_reducible exact H | (rw [hy309]; exact H) | exact H
    have Ny309 := zA hy309; clear hy309; have H' := zA H; clear H
    go_wp2_with (first | ((with_reducible refine gate_dst (N := 26) rfl ?_); refine Kd.S_lit (Kd.slice 3 (Kd.int .i64)) _ 45 ?hg (N := 26) ?hd (xs := ([] : List (List Int))) (inner := []) (ok := fun _ => True) (okp := fun _ => True) ?hr ?hp (fun _ hk => hk) trivial (Below.refl _ _) (Nat.le_refl _) (by simp) ?_; (case hd => rfl); (case hg => rfl); (case hr => first | (go_simp; done) | (go_simp; rfl)); (case hp => exact (Reps.none _ _)); intro v310 w14 ho15 hb hg_ hnew_; clear hg_ hnew_; (first | rw [← Ny309.out] at ho15 | (simp only [Int.reduceToNat] at ho15; rw [← Ny309.out] at ho15)); have n0_ := zA (Kd.S_lower ho15 (below_size (zW HB))); have n1_ := zA (below_step (zW HB) hb); clear HB; have HO311 := n0_; have HB := n1_; clear n0_ n1_; clear hb ho15))
    go_loopg [8, 29] kj3 (fun kq v8 v29 w' => ∃ (x8_2 : List (List Int)) (x29_2 : Int), v29 = .int .i64 x29_2 ∧ Aside0 (impl_FadedApart.l0 kq l0 a1 a2 x8_2 l0 (l0.length : Int) x29_2 = some (r1, r2)) ∧ Aside0 (kq ≤ kj3) ∧ Aside0 (Kd.S (Kd.slice 3 (Kd.int .i64)) 45 w' w.heap.size (fun _ => True) v8 x8_2) ∧ Aside0 (Below w.heap.size w w'))
    case atStart => exact ⟨(y309), (0), (by first | rfl | (simp; done) | (simp [*]; done)), H', ⟨Nat.le_refl _⟩, ⟨by (with_reducible repeat (first | apply Kd.S_alloc | apply Kd.S_drewN | apply Kd.S_drew)); exact HO311.out⟩, ⟨by repeat (first | (with_reducible first | exact HB.out | apply below_alloc | apply pw_below_drewN | apply below_drew1) | exact HB.out)⟩⟩
    case round =>
     clear H'
     try clear c1; try clear c2; try clear p2; try clear c6; try clear c8; try clear c13; try clear p2
     obtain ⟨x8_2, x29_2, rfl, HA, HK2, HO_8, HB⟩ := hrel
     cases gk with
     | zero => exact absurd HA.out (by simp [impl_FadedApart.l0])
     | succ k2 =>
      have H := HA.out; clear HA
      simp only [impl_FadedApart.l0] at H
      by_cases c16 : x29_2 < (l0.length : Int)
      ·rw [if_pos c16] at H
       have c16b0 : decide (x29_2 < (l0.length : Int)) = true := decide_eq_true c16; clear c16
       by_cases c17 : 0 ≤ x29_2
       ·rw [if_pos c17] at H
        have c17b0 : decide (0 ≤ x29_2) = true := decide_eq_true c17; clear c17
        by_cases c18 : x29_2 < (l0.length : Int)
        ·rw [if_pos c18] at H
         have c18b0 : decide (x29_2 < (l0.length : Int)) = true := decide_eq_true c18; clear c18
         obtain ⟨ji19, hji19⟩ : ∃ j_ : Int, (wrap64 (x29_2 + 1)) = j_ := ⟨_, rfl⟩
         replace H : (if 0 ≤ (ji19) then (if (ji19) ≤ (l0.length : Int) then ((some (l0.drop ((ji19) : Int).toNat : List (S42))).bind fun y314 => (impl_FadedApart.l1 k2 l0 a1 a2 x8_2 l0 (l0.length : Int) x29_2 y314 (y314.length : Int) 0 ((rd_T42 l0 x29_2).f0) ((rd_T42 l0 x29_2).f1) ((rd_T42 l0 x29_2).f2) ((rd_T42 l0 x29_2).f3) ((rd_T42 l0 x29_2).f4))) else (none)) else (none)) = some (r1, r2) := by first | (rw [hji19] at H; exact H) | (simp only [hji19] at H ⊢; exact H)
         have hji19w : (IntKind.i64.wrap (x29_2 + 1)) = ji19 := (i64_w _).trans hji19
         by_cases c20 : 0 ≤ (ji19)
         ·rw [if_pos c20] at H
          have c20b0 := eq_true c20; have c20b1 : decide (0 ≤ (ji19)) = true := decide_eq_true c20; clear c20
          by_cases c21 : (ji19) ≤ (l0.length : Int)
          ·rw [if_pos c21] at H
           have c21b0 := eq_true c21; have c21b1 : decide ((ji19) ≤ (l0.length : Int)) = true := decide_eq_true c21; clear c21
           obtain ⟨y314, hy314⟩ : ∃ y_ : List (S42), y_ = (l0.drop ((ji19) : Int).toNat) := ⟨_, rfl⟩
           replace H : (impl_FadedApart.l1 k2 l0 a1 a2 x8_2 l0 (l0.length : Int) x29_2 y314 (y314.length : Int) 0 ((rd_T42 l0 x29_2).f0) ((rd_T42 l0 x29_2).f1) ((rd_T42 l0 x29_2).f2) ((rd_T42 l0 x29_2).f3) ((rd_T42 l0 x29_2).f4)) = some (r1, r2) := by first | (rw [hy314]; with_reducible exact H) | (have H2_ := (Option.bind_some _ _).symm.trans H; rw [hy314]; with_reducible exact H2_) | (have H2_ := (Option.bind_some _ _).symm.trans H; with_reducible exact H2_) | with_reducible exact H | (rw [hy314]; exact H) | exact H
           have Ny314 := zA hy314; clear hy314; have H' := zA H; clear H; have p312 : 0 ≤ (x29_2 : Int) := of_decide_eq_true (by first | (with_reducible assumption) | assumption); have q312 : x29_2 < (l0.length : Int) := of_decide_eq_true (by first | (with_reducible assumption) | assumption)
           obtain ⟨ad312, e312, hx312_0, hx312_1, hx312_2, hx312_3, hx312_4⟩ := at_T42 HR0.out x29_2 p312 q312
           cases e312
           replace hx312_0 := (HB.out.cell (World.block_lt_of_cell? w _ hx312_0)).trans hx312_0
           replace hx312_1 := (HB.out.cell (World.block_lt_of_cell? w _ hx312_1)).trans hx312_1
           replace hx312_2 := (HB.out.cell (World.block_lt_of_cell? w _ hx312_2)).trans hx312_2
           replace hx312_3 := (HB.out.cell (World.block_lt_of_cell? w _ hx312_3)).trans hx312_3
           replace hx312_4 := (HB.out.cell (World.block_lt_of_cell? w _ hx312_4)).trans hx312_4
           replace p312 := eq_true p312
           replace q312 := eq_true q312
           go_wp2_with (first | ((with_reducible refine gate_dst (N := 10) rfl ?_); refine box_event ?hg (N := 10) ?hd (cs := #[.int .i64 0, .string (⟨#[]⟩ : ByteArray), .int .i64 0, .int .i64 0, .int .i64 0]) (t := 42) ?hr ?_; (case hd => rfl); (case hg => rfl); (case hr => first | (go_simp; done) | (go_simp; rfl)); intro gb313 hg w22 hbox hb; have n0_ := zA (Kd.S_below (by (with_reducible repeat (first | apply Kd.S_alloc | apply Kd.S_drewN | apply Kd.S_drew)); exact HO_8.out) hb); have n1_ := zA (below_step (zW HB) hb); have n2_ := zA (hbox); have n3_ := zA ((by rw [hg]; exact (below_size (zW HB)) : w.heap.size ≤ gb313)); have n4_ := zA ((by rw [hg]; exact (below_size (zW HB)) : w.heap.size ≤ gb313)); clear HO_8; clear HB; have HO_8 := n0_; have HB := n1_; have BK313 := n2_; have GW313 := n3_; have GE313 := n4_; clear n0_ n1_ n2_ n3_ n4_; clear hb hbox hg; have hcz23_0 : w22.cell? ⟨gb313, 0, none⟩ = some (.int .i64 0) := (blk_cell BK313.out 0).trans rfl; have hcz23_1 : w22.cell? ⟨gb313, 1, none⟩ = some (.string (⟨#[]⟩ : ByteArray)) := (blk_cell BK313.out 1).trans rfl; have hcz23_2 : w22.cell? ⟨gb313, 2, none⟩ = some (.int .i64 0) := (blk_cell BK313.out 2).trans rfl; have hcz23_3 : w22.cell? ⟨gb313, 3, none⟩ = some (.int .i64 0) := (blk_cell BK313.out 3).trans rfl; have hcz23_4 : w22.cell? ⟨gb313, 4, none⟩ = some (.int .i64 0) := (blk_cell BK313.out 4).trans rfl; have hfz23_0 := blk_frozen BK313.out 0; have hfz23_1 := blk_frozen BK313.out 1; have hfz23_2 := blk_frozen BK313.out 2; have hfz23_3 := blk_frozen BK313.out 3; have hfz23_4 := blk_frozen BK313.out 4) | ((with_reducible refine gate_store (t := 42) (p := 10) rfl ?_); refine store_event (t := 42) (p := 10) (v := ?vo_w24) (w1 := (((((w22.setCell ⟨gb313, 0, none⟩ (.int .i64 ((rd_T42 l0 x29_2).f0))).setCell ⟨gb313, 1, none⟩ (.string ((rd_T42 l0 x29_2).f1))).setCell ⟨gb313, 2, none⟩ (.int .i64 ((rd_T42 l0 x29_2).f2))).setCell ⟨gb313, 3, none⟩ (.int .i64 ((rd_T42 l0 x29_2).f3))).setCell ⟨gb313, 4, none⟩ (.int .i64 ((rd_T42 l0 x29_2).f4)))) ?hg ?ho ?hn ?hr ?_; (case ho => rfl); (case hg => rfl); (case hn => rfl); (case hr => first | (go_simp; done) | (go_simp; rfl)); intro w24 hw; have n0_ : Aside0 (Kd.S (Kd.slice 3 (Kd.int .i64)) 45 w24 w.heap.size (fun _ => True) u8 x8_2) := ⟨(by rw [hw]; exact (by (with_reducible repeat (first | apply Kd.S_alloc | apply Kd.S_drewN | apply Kd.S_drew)); exact Kd.S_mono (Kd.S_far (p := ⟨gb313, 4, none⟩) (Kd.S_far (p := ⟨gb313, 3, none⟩) (Kd.S_far (p := ⟨gb313, 2, none⟩) (Kd.S_far (p := ⟨gb313, 1, none⟩) (Kd.S_far (p := ⟨gb313, 0, none⟩) (Kd.S_types HO_8.out BK313.out (by decide)) (fun _ hk => hk.2) (.int .i64 ((rd_T42 l0 x29_2).f0))) (fun _ hk => hk.2) (.string ((rd_T42 l0 x29_2).f1))) (fun _ hk => hk.2) (.int .i64 ((rd_T42 l0 x29_2).f2))) (fun _ hk => hk.2) (.int .i64 ((rd_T42 l0 x29_2).f3))) (fun _ hk => hk.2) (.int .i64 ((rd_T42 l0 x29_2).f4))) (fun _ hk => trivial)))⟩; have n1_ : Aside0 (w24.heap[gb313]? = some (.cells #[.int .i64 ((rd_T42 l0 x29_2).f0), .string ((rd_T42 l0 x29_2).f1), .int .i64 ((rd_T42 l0 x29_2).f2), .int .i64 ((rd_T42 l0 x29_2).f3), .int .i64 ((rd_T42 l0 x29_2).f4)] 42 (0, 0))) := ⟨(by rw [hw]; exact (by (with_reducible repeat (first | refine blk_drewN ?_ _ | refine blk_drew ?_ | refine blk_alloc ?_ _)); refine blk_put (cs := #[.int .i64 ((rd_T42 l0 x29_2).f0), .string ((rd_T42 l0 x29_2).f1), .int .i64 ((rd_T42 l0 x29_2).f2), .int .i64 ((rd_T42 l0 x29_2).f3), .int .i64 0]) ?_ 4 _ rfl; (with_reducible repeat (first | refine blk_drewN ?_ _ | refine blk_drew ?_ | refine blk_alloc ?_ _)); refine blk_put (cs := #[.int .i64 ((rd_T42 l0 x29_2).f0), .string ((rd_T42 l0 x29_2).f1), .int .i64 ((rd_T42 l0 x29_2).f2), .int .i64 0, .int .i64 0]) ?_ 3 _ rfl; (with_reducible repeat (first | refine blk_drewN ?_ _ | refine blk_drew ?_ | refine blk_alloc ?_ _)); refine blk_put (cs := #[.int .i64 ((rd_T42 l0 x29_2).f0), .string ((rd_T42 l0 x29_2).f1), .int .i64 0, .int .i64 0, .int .i64 0]) ?_ 2 _ rfl; (with_reducible repeat (first | refine blk_drewN ?_ _ | refine blk_drew ?_ | refine blk_alloc ?_ _)); refine blk_put (cs := #[.int .i64 ((rd_T42 l0 x29_2).f0), .string (⟨#[]⟩ : ByteArray), .int .i64 0, .int .i64 0, .int .i64 0]) ?_ 1 _ rfl; (with_reducible repeat (first | refine blk_drewN ?_ _ | refine blk_drew ?_ | refine blk_alloc ?_ _)); refine blk_put (cs := #[.int .i64 0, .string (⟨#[]⟩ : ByteArray), .int .i64 0, .int .i64 0, .int .i64 0]) ?_ 0 _ rfl; (with_reducible repeat (first | refine blk_drewN ?_ _ | refine blk_drew ?_ | refine blk_alloc ?_ _)); exact BK313.out))⟩; have n2_ : Aside0 (Below w.heap.size w w24) := ⟨(by rw [hw]; exact (zW1 HB GE313))⟩; clear hw; clear HO_8; clear BK313; clear HB; have HO_8 := n0_; have BK313 := n1_; have HB := n2_; clear n0_ n1_ n2_; have q25 : ((ji19) : Int) ≤ ((l0.length : Int) : Int) := of_decide_eq_true (by first | (with_reducible assumption) | assumption); obtain ⟨i025, hi025, _, hsz25, _⟩ := info_parts info42; have hroom25 : l0.length ≤ c0 := HC0.out; have hC25 : Kd.C k42 _ (some ad312) l0.length l0 := HR0.out; have q025 : (0 : Int) ≤ ((ji19) : Int) := of_decide_eq_true (by first | (with_reducible assumption) | assumption); have hcut25 := cut_from (P := Tryd.prog) 27 42 .i64 Tryd.underlying27 hi025 5 hsz25 (some ad312) l0.length c0 (ji19) q025 q25; have hr25 := Kd.C_drop (m := ((ji19) : Int).toNat) (c := c0) hC25 (by omega) hroom25; obtain ⟨A25, hA25⟩ : ∃ A1, A1 = (if c0 = ((ji19) : Int).toNat then (some ad312) else ((some ad312) : Option Addr).map (·.add (((ji19) : Int).toNat * 5))) := ⟨_, rfl⟩; obtain ⟨c25, hc25⟩ : ∃ c1, c1 = c0 - ((ji19) : Int).toNat := ⟨_, rfl⟩; have hy25 : y314.length = l0.length - ((ji19) : Int).toNat := (by rw [Ny314.out, List.length_drop] <;> omega); rw [show (l0).drop ((ji19) : Int).toNat = y314 from Ny314.out.symm] at hr25; replace hr25 : Kd.C k42 _ A25 y314.length y314 := (by rw [hA25]; exact hr25); rw [← hy25, ← hA25, ← hc25] at hcut25; have HR317 := zA hr25; have HC317 := zA (show y314.length ≤ c25 from by rw [hy25, hc25]; exact Nat.sub_le_sub_right hroom25 _); clear hr25 hC25 hroom25 hi025 hsz25 hc25; have KY25 := zA hy25; have KA25 := zA hA25; clear hy25 hA25; replace q25 := eq_true q25))
           go_loopg [8, 39] k2 (fun kq v8 v39 w' => ∃ (x8_3 : List (List Int)) (x39_3 : Int), v39 = .int .i64 x39_3 ∧ Aside0 (impl_FadedApart.l1 kq l0 a1 a2 x8_3 l0 (l0.length : Int) x29_2 y314 (y314.length : Int) x39_3 ((rd_T42 l0 x29_2).f0) ((rd_T42 l0 x29_2).f1) ((rd_T42 l0 x29_2).f2) ((rd_T42 l0 x29_2).f3) ((rd_T42 l0 x29_2).f4) = some (r1, r2)) ∧ Aside0 (kq ≤ k2) ∧ Aside0 (Kd.S (Kd.slice 3 (Kd.int .i64)) 45 w' w.heap.size (fun _ => True) v8 x8_3) ∧ Aside0 (w'.heap[gb313]? = some (.cells #[.int .i64 ((rd_T42 l0 x29_2).f0), .string ((rd_T42 l0 x29_2).f1), .int .i64 ((rd_T42 l0 x29_2).f2), .int .i64 ((rd_T42 l0 x29_2).f3), .int .i64 ((rd_T42 l0 x29_2).f4)] 42 (0, 0))) ∧ Aside0 (Below w.heap.size w w'))
           case atStart => exact ⟨(x8_2), (0), (by first | rfl | (simp; done) | (simp [*]; done)), H', ⟨Nat.le_refl _⟩, ⟨by (with_reducible repeat (first | apply Kd.S_alloc | apply Kd.S_drewN | apply Kd.S_drew)); exact HO_8.out⟩, ⟨zB BK313⟩, ⟨by repeat (first | (with_reducible first | exact HB.out | apply below_alloc | apply pw_below_drewN | apply below_drew1 | refine below_set ?_ GE313.out) | exact HB.out)⟩⟩
           case round =>
            clear H'
            try clear c1; try clear c2; try clear p2; try clear q2; try clear p3; try clear q3; try clear hx3; try clear c6; try clear p6; try clear c8; try clear c13; try clear c16; try clear c16b0; try clear c17; try clear c17b0; try clear c18; try clear c18b0; try clear c20; try clear c20b0; try clear c20b1; try clear c21; try clear c21b0; try clear c21b1; try clear c23; try clear c25; try clear q25; try clear hcz23_0; try clear hcz23_1; try clear hcz23_2; try clear hcz23_3; try clear hcz23_4; try clear hfz23_0; try clear hfz23_1; try clear hfz23_2; try clear hfz23_3; try clear hfz23_4; try clear hx312_0; try clear hx312_1; try clear hx312_2; try clear hx312_3; try clear hx312_4; try clear p2; try clear p312; try clear q025; try clear q25; try clear q312
            obtain ⟨x8_3, x39_3, rfl, HA, HK3, HO_8, BK313, HB⟩ := hrel
            cases gk with
            | zero => exact absurd HA.out (by simp [impl_FadedApart.l1])
            | succ k3 =>
             have H := HA.out; clear HA
             simp only [impl_FadedApart.l1] at H
             by_cases c26 : x39_3 < (y314.length : Int)
             ·rw [if_pos c26] at H
              have c26b0 : decide (x39_3 < (y314.length : Int)) = true := decide_eq_true c26; clear c26
              by_cases c27 : 0 ≤ x39_3
              ·rw [if_pos c27] at H
               have c27b0 : decide (0 ≤ x39_3) = true := decide_eq_true c27; clear c27
               by_cases c28 : x39_3 < (y314.length : Int)
               ·rw [if_pos c28] at H
                have c28b0 : decide (x39_3 < (y314.length : Int)) = true := decide_eq_true c28; clear c28
                replace H := Option.bind_eq_some_iff.mp H
                obtain ⟨t320, A290, H⟩ := H
                replace H : (if t320 ≥ a2 then ((impl_Shade_faded.f ((rd_T42 l0 x29_2).f0) ((rd_T42 l0 x29_2).f1) ((rd_T42 l0 x29_2).f2) ((rd_T42 l0 x29_2).f3) ((rd_T42 l0 x29_2).f4) a1).bind fun bt321 => ((impl_Shade_faded.f ((rd_T42 y314 x39_3).f0) ((rd_T42 y314 x39_3).f1) ((rd_T42 y314 x39_3).f2) ((rd_T42 y314 x39_3).f3) ((rd_T42 y314 x39_3).f4) a1).bind fun bt326 => ((impl_Shade_distance.f bt321.1 bt321.2.1 bt321.2.2.1 bt321.2.2.2.1 bt321.2.2.2.2 bt326.1 bt326.2.1 bt326.2.2.1 bt326.2.2.2.1 bt326.2.2.2.2).bind fun t331 => (if t331 < a2 then (if x8_3.length < 5864062014805 then (impl_FadedApart.l1 k3 l0 a1 a2 (x8_3 ++ [(([((rd_T42 l0 x29_2).f0), (rd_T42 y314 x39_3).f0] : List Int))]) l0 (l0.length : Int) x29_2 y314 (y314.length : Int) (wrap64 (x39_3 + 1)) ((rd_T42 l0 x29_2).f0) ((rd_T42 l0 x29_2).f1) ((rd_T42 l0 x29_2).f2) ((rd_T42 l0 x29_2).f3) ((rd_T42 l0 x29_2).f4)) else (none)) else (impl_FadedApart.l1 k3 l0 a1 a2 x8_3 l0 (l0.length : Int) x29_2 y314 (y314.length : Int) (wrap64 (x39_3 + 1)) ((rd_T42 l0 x29_2).f0) ((rd_T42 l0 x29_2).f1) ((rd_T42 l0 x29_2).f2) ((rd_T42 l0 x29_2).f3) ((rd_T42 l0 x29_2).f4)))))) else (impl_FadedApart.l1 k3 l0 a1 a2 x8_3 l0 (l0.length : Int) x29_2 y314 (y314.length : Int) (wrap64 (x39_3 + 1)) ((rd_T42 l0 x29_2).f0) ((rd_T42 l0 x29_2).f1) ((rd_T42 l0 x29_2).f2) ((rd_T42 l0 x29_2).f3) ((rd_T42 l0 x29_2).f4))) = some (r1, r2) := H
                have A29 := zA A290; clear A290
                by_cases c30 : t320 ≥ a2
                ·rw [if_pos c30] at H
                 have c30b0 : decide (a2 ≤ t320) = true := decide_eq_true c30; clear c30
                 replace H := Option.bind_eq_some_iff.mp H
                 obtain ⟨⟨t321, t322, t323, t324, t325⟩, A310, H⟩ := H
                 replace H : ((impl_Shade_faded.f ((rd_T42 y314 x39_3).f0) ((rd_T42 y314 x39_3).f1) ((rd_T42 y314 x39_3).f2) ((rd_T42 y314 x39_3).f3) ((rd_T42 y314 x39_3).f4) a1).bind fun bt326 => ((impl_Shade_distance.f t321 t322 t323 t324 t325 bt326.1 bt326.2.1 bt326.2.2.1 bt326.2.2.2.1 bt326.2.2.2.2).bind fun t331 => (if t331 < a2 then (if x8_3.length < 5864062014805 then (impl_FadedApart.l1 k3 l0 a1 a2 (x8_3 ++ [(([((rd_T42 l0 x29_2).f0), (rd_T42 y314 x39_3).f0] : List Int))]) l0 (l0.length : Int) x29_2 y314 (y314.length : Int) (wrap64 (x39_3 + 1)) ((rd_T42 l0 x29_2).f0) ((rd_T42 l0 x29_2).f1) ((rd_T42 l0 x29_2).f2) ((rd_T42 l0 x29_2).f3) ((rd_T42 l0 x29_2).f4)) else (none)) else (impl_FadedApart.l1 k3 l0 a1 a2 x8_3 l0 (l0.length : Int) x29_2 y314 (y314.length : Int) (wrap64 (x39_3 + 1)) ((rd_T42 l0 x29_2).f0) ((rd_T42 l0 x29_2).f1) ((rd_T42 l0 x29_2).f2) ((rd_T42 l0 x29_2).f3) ((rd_T42 l0 x29_2).f4))))) = some (r1, r2) := H
                 have A31 := zA A310; clear A310
                 replace H := Option.bind_eq_some_iff.mp H
                 obtain ⟨⟨t326, t327, t328, t329, t330⟩, A320, H⟩ := H
                 replace H : ((impl_Shade_distance.f t321 t322 t323 t324 t325 t326 t327 t328 t329 t330).bind fun t331 => (if t331 < a2 then (if x8_3.length < 5864062014805 then (impl_FadedApart.l1 k3 l0 a1 a2 (x8_3 ++ [(([((rd_T42 l0 x29_2).f0), (rd_T42 y314 x39_3).f0] : List Int))]) l0 (l0.length : Int) x29_2 y314 (y314.length : Int) (wrap64 (x39_3 + 1)) ((rd_T42 l0 x29_2).f0) ((rd_T42 l0 x29_2).f1) ((rd_T42 l0 x29_2).f2) ((rd_T42 l0 x29_2).f3) ((rd_T42 l0 x29_2).f4)) else (none)) else (impl_FadedApart.l1 k3 l0 a1 a2 x8_3 l0 (l0.length : Int) x29_2 y314 (y314.length : Int) (wrap64 (x39_3 + 1)) ((rd_T42 l0 x29_2).f0) ((rd_T42 l0 x29_2).f1) ((rd_T42 l0 x29_2).f2) ((rd_T42 l0 x29_2).f3) ((rd_T42 l0 x29_2).f4)))) = some (r1, r2) := H
                 have A32 := zA A320; clear A320
                 replace H := Option.bind_eq_some_iff.mp H
                 obtain ⟨t331, A330, H⟩ := H
                 replace H : (if t331 < a2 then (if x8_3.length < 5864062014805 then (impl_FadedApart.l1 k3 l0 a1 a2 (x8_3 ++ [(([((rd_T42 l0 x29_2).f0), (rd_T42 y314 x39_3).f0] : List Int))]) l0 (l0.length : Int) x29_2 y314 (y314.length : Int) (wrap64 (x39_3 + 1)) ((rd_T42 l0 x29_2).f0) ((rd_T42 l0 x29_2).f1) ((rd_T42 l0 x29_2).f2) ((rd_T42 l0 x29_2).f3) ((rd_T42 l0 x29_2).f4)) else (none)) else (impl_FadedApart.l1 k3 l0 a1 a2 x8_3 l0 (l0.length : Int) x29_2 y314 (y314.length : Int) (wrap64 (x39_3 + 1)) ((rd_T42 l0 x29_2).f0) ((rd_T42 l0 x29_2).f1) ((rd_T42 l0 x29_2).f2) ((rd_T42 l0 x29_2).f3) ((rd_T42 l0 x29_2).f4))) = some (r1, r2) := H
                 have A33 := zA A330; clear A330
                 by_cases c34 : t331 < a2
                 ·rw [if_pos c34] at H
                  have c34b0 : decide (t331 < a2) = true := decide_eq_true c34; clear c34
                  obtain ⟨y332, hy332⟩ : ∃ y_ : List Int, y_ = (([((rd_T42 l0 x29_2).f0), (rd_T42 y314 x39_3).f0] : List Int)) := ⟨_, rfl⟩
                  replace H : (if x8_3.length < 5864062014805 then (impl_FadedApart.l1 k3 l0 a1 a2 (x8_3 ++ [y332]) l0 (l0.length : Int) x29_2 y314 (y314.length : Int) (wrap64 (x39_3 + 1)) ((rd_T42 l0 x29_2).f0) ((rd_T42 l0 x29_2).f1) ((rd_T42 l0 x29_2).f2) ((rd_T42 l0 x29_2).f3) ((rd_T42 l0 x29_2).f4)) else (none)) = some (r1, r2) := by first | (rw [hy332]; with_reducible exact H) | (have H2_ := (Option.bind_some _ _).symm.trans H; rw [hy332]; with_reducible exact H2_) | (have H2_ := (Option.bind_some _ _).symm.trans H; with_reducible exact H2_) | with_reducible exact H | (rw [hy332]; exact H) | exact H
                  have Ny332 := zA hy332; clear hy332
                  by_cases c35 : x8_3.length < 5864062014805
                  ·rw [if_pos c35] at H
                   have LMc35 := zA c35; clear c35
                   obtain ⟨y335, hy335⟩ : ∃ y_ : List (List Int), y_ = (x8_3 ++ [y332]) := ⟨_, rfl⟩
                   replace H : (impl_FadedApart.l1 k3 l0 a1 a2 y335 l0 (l0.length : Int) x29_2 y314 (y314.length : Int) (wrap64 (x39_3 + 1)) ((rd_T42 l0 x29_2).f0) ((rd_T42 l0 x29_2).f1) ((rd_T42 l0 x29_2).f2) ((rd_T42 l0 x29_2).f3) ((rd_T42 l0 x29_2).f4)) = some (r1, r2) := by first | (rw [hy335]; with_reducible exact H) | (have H2_ := (Option.bind_some _ _).symm.trans H; rw [hy335]; with_reducible exact H2_) | (have H2_ := (Option.bind_some _ _).symm.trans H; with_reducible exact H2_) | with_reducible exact H | (rw [hy335]; exact H) | exact H
                   have Ny335 := zA hy335; clear hy335; have H' := zA H; clear H; have p318 : 0 ≤ (x39_3 : Int) := of_decide_eq_true (by first | (with_reducible assumption) | assumption); have q318 : x39_3 < (y314.length : Int) := of_decide_eq_true (by first | (with_reducible assumption) | assumption)
                   obtain ⟨ad318, e318, hx318_0, hx318_1, hx318_2, hx318_3, hx318_4⟩ := at_T42 HR317.out x39_3 p318 q318
                   cases e318
                   replace hx318_0 := (HB.out.cell (World.block_lt_of_cell? w _ hx318_0)).trans hx318_0
                   replace hx318_1 := (HB.out.cell (World.block_lt_of_cell? w _ hx318_1)).trans hx318_1
                   replace hx318_2 := (HB.out.cell (World.block_lt_of_cell? w _ hx318_2)).trans hx318_2
                   replace hx318_3 := (HB.out.cell (World.block_lt_of_cell? w _ hx318_3)).trans hx318_3
                   replace hx318_4 := (HB.out.cell (World.block_lt_of_cell? w _ hx318_4)).trans hx318_4
                   replace p318 := eq_true p318
                   replace q318 := eq_true q318
                   try go_wp2_with (first | ((with_reducible refine gate_dst (N := 12) rfl ?_); refine box_event ?hg (N := 12) ?hd (cs := #[.int .i64 0, .string (⟨#[]⟩ : ByteArray), .int .i64 0, .int .i64 0, .int .i64 0]) (t := 42) ?hr ?_; (case hd => rfl); (case hg => rfl); (case hr => first | (go_simp; done) | (go_simp; rfl)); intro gb319 hg w36 hbox hb; have n0_ := zA (Kd.S_below (by (with_reducible repeat (first | apply Kd.S_alloc | apply Kd.S_drewN | apply Kd.S_drew)); exact HO_8.out) hb); have n1_ := zL BK313 hb; have n2_ := zA (below_step (zW1 HB GE313) hb); have n3_ := zA (hbox); have n4_ := zA ((by rw [hg]; exact (below_size (zW1 HB GE313)) : w.heap.size ≤ gb319)); have n5_ := zA ((by rw [hg]; exact (below_size (zW1 HB GE313)) : w.heap.size ≤ gb319)); have n6_ := zA ((by rw [hg]; exact Nat.ne_of_lt (zT BK313) : gb313 ≠ gb319)); have n7_ := zA ((by rw [hg]; exact Nat.ne_of_gt (zT BK313) : gb319 ≠ gb313)); clear HO_8; clear BK313; clear HB; have HO_8 := n0_; have BK313 := n1_; have HB := n2_; have BK319 := n3_; have GW319 := n4_; have GE319 := n5_; have NB313_319 := n6_; have NB319_313 := n7_; clear n0_ n1_ n2_ n3_ n4_ n5_ n6_ n7_; clear hb hbox hg; have hnb37 := NB319_313.out; have hnc37 := NB313_319.out; have hcz38_0 : w36.cell? ⟨gb319, 0, none⟩ = some (.int .i64 0) := (blk_cell BK319.out 0).trans rfl; have hcz38_1 : w36.cell? ⟨gb319, 1, none⟩ = some (.string (⟨#[]⟩ : ByteArray)) := (blk_cell BK319.out 1).trans rfl; have hcz38_2 : w36.cell? ⟨gb319, 2, none⟩ = some (.int .i64 0) := (blk_cell BK319.out 2).trans rfl; have hcz38_3 : w36.cell? ⟨gb319, 3, none⟩ = some (.int .i64 0) := (blk_cell BK319.out 3).trans rfl; have hcz38_4 : w36.cell? ⟨gb319, 4, none⟩ = some (.int .i64 0) := (blk_cell BK319.out 4).trans rfl; have hfz38_0 := blk_frozen BK319.out 0; have hfz38_1 := blk_frozen BK319.out 1; have hfz38_2 := blk_frozen BK319.out 2; have hfz38_3 := blk_frozen BK319.out 3; have hfz38_4 := blk_frozen BK319.out 4))
                   have n0_ : Aside0 (Kd.S (Kd.slice 3 (Kd.int .i64)) 45 (((((w36.setCell ⟨gb319, 0, none⟩ (.int .i64 ((rd_T42 y314 x39_3).f0))).setCell ⟨gb319, 1, none⟩ (.string ((rd_T42 y314 x39_3).f1))).setCell ⟨gb319, 2, none⟩ (.int .i64 ((rd_T42 y314 x39_3).f2))).setCell ⟨gb319, 3, none⟩ (.int .i64 ((rd_T42 y314 x39_3).f3))).setCell ⟨gb319, 4, none⟩ (.int .i64 ((rd_T42 y314 x39_3).f4))) w.heap.size (fun _ => True) u8 x8_3) := ⟨by (with_reducible repeat (first | apply Kd.S_alloc | apply Kd.S_drewN | apply Kd.S_drew)); exact Kd.S_mono (Kd.S_far (p := ⟨gb319, 4, none⟩) (Kd.S_far (p := ⟨gb319, 3, none⟩) (Kd.S_far (p := ⟨gb319, 2, none⟩) (Kd.S_far (p := ⟨gb319, 1, none⟩) (Kd.S_far (p := ⟨gb319, 0, none⟩) (Kd.S_types HO_8.out BK319.out (by decide)) (fun _ hk => hk.2) (.int .i64 ((rd_T42 y314 x39_3).f0))) (fun _ hk => hk.2) (.string ((rd_T42 y314 x39_3).f1))) (fun _ hk => hk.2) (.int .i64 ((rd_T42 y314 x39_3).f2))) (fun _ hk => hk.2) (.int .i64 ((rd_T42 y314 x39_3).f3))) (fun _ hk => hk.2) (.int .i64 ((rd_T42 y314 x39_3).f4))) (fun _ hk => trivial)⟩; have n1_ : Aside0 ((((((w36.setCell ⟨gb319, 0, none⟩ (.int .i64 ((rd_T42 y314 x39_3).f0))).setCell ⟨gb319, 1, none⟩ (.string ((rd_T42 y314 x39_3).f1))).setCell ⟨gb319, 2, none⟩ (.int .i64 ((rd_T42 y314 x39_3).f2))).setCell ⟨gb319, 3, none⟩ (.int .i64 ((rd_T42 y314 x39_3).f3))).setCell ⟨gb319, 4, none⟩ (.int .i64 ((rd_T42 y314 x39_3).f4))).heap[gb313]? = some (.cells #[.int .i64 ((rd_T42 l0 x29_2).f0), .string ((rd_T42 l0 x29_2).f1), .int .i64 ((rd_T42 l0 x29_2).f2), .int .i64 ((rd_T42 l0 x29_2).f3), .int .i64 ((rd_T42 l0 x29_2).f4)] 42 (0, 0))) := ⟨by (with_reducible repeat (first | refine blk_drewN ?_ _ | refine blk_drew ?_ | refine blk_alloc ?_ _)); refine blk_far ?_ NB313_319.out _; (with_reducible repeat (first | refine blk_drewN ?_ _ | refine blk_drew ?_ | refine blk_alloc ?_ _)); refine blk_far ?_ NB313_319.out _; (with_reducible repeat (first | refine blk_drewN ?_ _ | refine blk_drew ?_ | refine blk_alloc ?_ _)); refine blk_far ?_ NB313_319.out _; (with_reducible repeat (first | refine blk_drewN ?_ _ | refine blk_drew ?_ | refine blk_alloc ?_ _)); refine blk_far ?_ NB313_319.out _; (with_reducible repeat (first | refine blk_drewN ?_ _ | refine blk_drew ?_ | refine blk_alloc ?_ _)); refine blk_far ?_ NB313_319.out _; (with_reducible repeat (first | refine blk_drewN ?_ _ | refine blk_drew ?_ | refine blk_alloc ?_ _)); exact BK313.out⟩; have n2_ : Aside0 ((((((w36.setCell ⟨gb319, 0, none⟩ (.int .i64 ((rd_T42 y314 x39_3).f0))).setCell ⟨gb319, 1, none⟩ (.string ((rd_T42 y314 x39_3).f1))).setCell ⟨gb319, 2, none⟩ (.int .i64 ((rd_T42 y314 x39_3).f2))).setCell ⟨gb319, 3, none⟩ (.int .i64 ((rd_T42 y314 x39_3).f3))).setCell ⟨gb319, 4, none⟩ (.int .i64 ((rd_T42 y314 x39_3).f4))).heap[gb319]? = some (.cells #[.int .i64 ((rd_T42 y314 x39_3).f0), .string ((rd_T42 y314 x39_3).f1), .int .i64 ((rd_T42 y314 x39_3).f2), .int .i64 ((rd_T42 y314 x39_3).f3), .int .i64 ((rd_T42 y314 x39_3).f4)] 42 (0, 0))) := ⟨by (with_reducible repeat (first | refine blk_drewN ?_ _ | refine blk_drew ?_ | refine blk_alloc ?_ _)); refine blk_put (cs := #[.int .i64 ((rd_T42 y314 x39_3).f0), .string ((rd_T42 y314 x39_3).f1), .int .i64 ((rd_T42 y314 x39_3).f2), .int .i64 ((rd_T42 y314 x39_3).f3), .int .i64 0]) ?_ 4 _ rfl; (with_reducible repeat (first | refine blk_drewN ?_ _ | refine blk_drew ?_ | refine blk_alloc ?_ _)); refine blk_put (cs := #[.int .i64 ((rd_T42 y314 x39_3).f0), .string ((rd_T42 y314 x39_3).f1), .int .i64 ((rd_T42 y314 x39_3).f2), .int .i64 0, .int .i64 0]) ?_ 3 _ rfl; (with_reducible repeat (first | refine blk_drewN ?_ _ | refine blk_drew ?_ | refine blk_alloc ?_ _)); refine blk_put (cs := #[.int .i64 ((rd_T42 y314 x39_3).f0), .string ((rd_T42 y314 x39_3).f1), .int .i64 0, .int .i64 0, .int .i64 0]) ?_ 2 _ rfl; (with_reducible repeat (first | refine blk_drewN ?_ _ | refine blk_drew ?_ | refine blk_alloc ?_ _)); refine blk_put (cs := #[.int .i64 ((rd_T42 y314 x39_3).f0), .string (⟨#[]⟩ : ByteArray), .int .i64 0, .int .i64 0, .int .i64 0]) ?_ 1 _ rfl; (with_reducible repeat (first | refine blk_drewN ?_ _ | refine blk_drew ?_ | refine blk_alloc ?_ _)); refine blk_put (cs := #[.int .i64 0, .string (⟨#[]⟩ : ByteArray), .int .i64 0, .int .i64 0, .int .i64 0]) ?_ 0 _ rfl; (with_reducible repeat (first | refine blk_drewN ?_ _ | refine blk_drew ?_ | refine blk_alloc ?_ _)); exact BK319.out⟩; have n3_ : Aside0 (Below w.heap.size w (((((w36.setCell ⟨gb319, 0, none⟩ (.int .i64 ((rd_T42 y314 x39_3).f0))).setCell ⟨gb319, 1, none⟩ (.string ((rd_T42 y314 x39_3).f1))).setCell ⟨gb319, 2, none⟩ (.int .i64 ((rd_T42 y314 x39_3).f2))).setCell ⟨gb319, 3, none⟩ (.int .i64 ((rd_T42 y314 x39_3).f3))).setCell ⟨gb319, 4, none⟩ (.int .i64 ((rd_T42 y314 x39_3).f4)))) := ⟨by repeat (first | (with_reducible first | exact HB.out | apply below_alloc | apply pw_below_drewN | apply below_drew1 | refine below_set ?_ GE313.out | refine below_set ?_ GE319.out) | exact HB.out)⟩; (try clear HO_8); (try clear BK313); (try clear BK319); (try clear HB)
                   generalize (((((w36.setCell ⟨gb319, 0, none⟩ (.int .i64 ((rd_T42 y314 x39_3).f0))).setCell ⟨gb319, 1, none⟩ (.string ((rd_T42 y314 x39_3).f1))).setCell ⟨gb319, 2, none⟩ (.int .i64 ((rd_T42 y314 x39_3).f2))).setCell ⟨gb319, 3, none⟩ (.int .i64 ((rd_T42 y314 x39_3).f3))).setCell ⟨gb319, 4, none⟩ (.int .i64 ((rd_T42 y314 x39_3).f4))) = w39 at n0_ n1_ n2_ n3_ ⊢
                   have HO_8 := n0_; have BK313 := n1_; have BK319 := n2_; have HB := n3_; clear n0_ n1_ n2_ n3_; have n0_ := zA (Kd.S_drew HO_8.out); have n1_ := zA (blk_drew BK313.out); have n2_ := zA (blk_drew BK319.out); have n3_ := zA (below_drew1 HB.out); clear HO_8; clear BK313; clear BK319; clear HB; have HO_8 := n0_; have BK313 := n1_; have BK319 := n2_; have HB := n3_; clear n0_ n1_ n2_ n3_
                   refine start_ (n := 16) (S := fun w' => w'.cell? ⟨gb313, 0, none⟩ = some (.int .i64 ((rd_T42 l0 x29_2).f0)) ∧ w'.cell? ⟨gb313, 1, none⟩ = some (.string ((rd_T42 l0 x29_2).f1)) ∧ w'.cell? ⟨gb313, 2, none⟩ = some (.int .i64 ((rd_T42 l0 x29_2).f2)) ∧ w'.cell? ⟨gb313, 3, none⟩ = some (.int .i64 ((rd_T42 l0 x29_2).f3)) ∧ w'.cell? ⟨gb313, 4, none⟩ = some (.int .i64 ((rd_T42 l0 x29_2).f4)) ∧ w'.cell? ⟨gb319, 0, none⟩ = some (.int .i64 ((rd_T42 y314 x39_3).f0)) ∧ w'.cell? ⟨gb319, 1, none⟩ = some (.string ((rd_T42 y314 x39_3).f1)) ∧ w'.cell? ⟨gb319, 2, none⟩ = some (.int .i64 ((rd_T42 y314 x39_3).f2)) ∧ w'.cell? ⟨gb319, 3, none⟩ = some (.int .i64 ((rd_T42 y314 x39_3).f3)) ∧ w'.cell? ⟨gb319, 4, none⟩ = some (.int .i64 ((rd_T42 y314 x39_3).f4))) (ds := []) #[false, false, false, false, false, false, false, false, false, false, false, false, false, false, false, false] (by kernel_rfl) rfl rfl ⟨(blk_cell BK313.out 0).trans rfl, (blk_cell BK313.out 1).trans rfl, (blk_cell BK313.out 2).trans rfl, (blk_cell BK313.out 3).trans rfl, (blk_cell BK313.out 4).trans rfl, (blk_cell BK319.out 0).trans rfl, (blk_cell BK319.out 1).trans rfl, (blk_cell BK319.out 2).trans rfl, (blk_cell BK319.out 3).trans rfl, (blk_cell BK319.out 4).trans rfl⟩ (fun hHeld => ?_); refine with_tabW impl_FadedApart.tab10 impl_FadedApart.bits10 (fun HT_ HW_ => ?_)
                   generalize w39.drew = w40 at HO_8 BK313 BK319 HB hHeld ⊢
                   refine pure_ (i := 3) (N := some 46) (v := ?_) (a' := ?_) #[false, false, false, true, false, false, false, false, false, false, false, false, false, false, false, false] rfl rfl (any_of HT_.out (by kernel_rfl)) (fun _ _ _ h => h) (Or.inl ⟨by rfl, ?_⟩) ?_ ?_
                   rotate_left
                   ·intro w'
                    go_simp
                    with_reducible rfl
                   rotate_left
                   ·simp only [Act.put, List.setIfInBounds_toArray, List.set_cons_zero, List.set_cons_succ, i64_w, i32_w]
                    rfl
                   refine take_ (i := 0) (N := some 43) (v := ?_) (a' := ?_) #[true, false, false, true, false, false, false, false, false, false, false, false, false, false, false, false] rfl rfl (take_ofW HT_.out HW_.out (by kernel_rfl)) (fun _ _ _ h => h) (Or.inl ⟨by rfl, ?_⟩) hHeld ?_ ?_
                   rotate_left
                   ·rintro w' ⟨s0, s1, s2, s3, s4, s5, s6, s7, s8, s9⟩
                    go_simp
                    with_reducible rfl
                   rotate_left
                   ·simp only [Act.put, List.setIfInBounds_toArray, List.set_cons_zero, List.set_cons_succ, i64_w, i32_w]
                    rfl
                   refine take_ (i := 1) (N := some 44) (v := ?_) (a' := ?_) #[true, true, false, true, false, false, false, false, false, false, false, false, false, false, false, false] rfl rfl (take_ofW HT_.out HW_.out (by kernel_rfl)) (fun _ _ _ h => h) (Or.inl ⟨by rfl, ?_⟩) hHeld ?_ ?_
                   rotate_left
                   ·rintro w' ⟨s0, s1, s2, s3, s4, s5, s6, s7, s8, s9⟩
                    go_simp
                    with_reducible rfl
                   rotate_left
                   ·simp only [Act.put, List.setIfInBounds_toArray, List.set_cons_zero, List.set_cons_succ, i64_w, i32_w]
                    rfl
                   refine one_ (i := 2) (N := some 45) #[true, true, true, true, false, false, false, false, false, false, false, false, false, false, false, false] rfl rfl (one_of HT_.out (by kernel_rfl)) (by decide) (fun K hK => ?_)
                   refine goes_ Tryd.func26 (by kernel_rfl) rfl #[.agg #[.int .i64 ((rd_T42 l0 x29_2).f0), .string ((rd_T42 l0 x29_2).f1), .int .i64 ((rd_T42 l0 x29_2).f2), .int .i64 ((rd_T42 l0 x29_2).f3), .int .i64 ((rd_T42 l0 x29_2).f4)], .agg #[.int .i64 ((rd_T42 y314 x39_3).f0), .string ((rd_T42 y314 x39_3).f1), .int .i64 ((rd_T42 y314 x39_3).f2), .int .i64 ((rd_T42 y314 x39_3).f3), .int .i64 ((rd_T42 y314 x39_3).f4)]] (by rfl) rfl rfl (zM) ?_
                   with_reducible refine (impl_Shade_distance.calls ((rd_T42 l0 x29_2).f0) ((rd_T42 l0 x29_2).f1) ((rd_T42 l0 x29_2).f2) ((rd_T42 l0 x29_2).f3) ((rd_T42 l0 x29_2).f4) ((rd_T42 y314 x39_3).f0) ((rd_T42 y314 x39_3).f1) ((rd_T42 y314 x39_3).f2) ((rd_T42 y314 x39_3).f3) ((rd_T42 y314 x39_3).f4) t320 _ A29.out).mono ?_
                   rintro e w41 ⟨rfl, hb⟩
                   refine ⟨_, rfl, ?_⟩
                   have n0_ := zA (Kd.S_below (by (with_reducible repeat (first | apply Kd.S_alloc | apply Kd.S_drewN | apply Kd.S_drew)); exact HO_8.out) hb); have n1_ := zL BK313 hb; have n2_ := zL BK319 hb; have n3_ := zA (below_step (zW2 HB GE313 GE319) hb); clear HO_8; clear BK313; clear BK319; clear HB; have HO_8 := n0_; have BK313 := n1_; have BK319 := n2_; have HB := n3_; clear n0_ n1_ n2_ n3_; (try clear hb); (try clear hb2); (try clear hk); (try clear hi)
                   refine hK.out _ _ ⟨(blk_cell BK313.out 0).trans rfl, (blk_cell BK313.out 1).trans rfl, (blk_cell BK313.out 2).trans rfl, (blk_cell BK313.out 3).trans rfl, (blk_cell BK313.out 4).trans rfl, (blk_cell BK319.out 0).trans rfl, (blk_cell BK319.out 1).trans rfl, (blk_cell BK319.out 2).trans rfl, (blk_cell BK319.out 3).trans rfl, (blk_cell BK319.out 4).trans rfl⟩ (fun hHeld => ?_)
                   clear hK K
                   refine norm_ (a' := ?_) ?_ ?_
                   rotate_left
                   ·show Act.put _ (some 45) _ = _
                    simp only [Act.put, List.setIfInBounds_toArray, List.set_cons_zero, List.set_cons_succ, i64_w, i32_w]
                    rfl
                   refine pure_ (i := 4) (N := some 47) (v := ?_) (a' := ?_) #[true, true, true, true, true, false, false, false, false, false, false, false, false, false, false, false] rfl rfl (any_of HT_.out (by kernel_rfl)) (fun _ _ _ h => h) (Or.inl ⟨by rfl, ?_⟩) ?_ ?_
                   rotate_left
                   ·intro w'
                    go_simp
                    with_reducible rfl
                   rotate_left
                   ·simp only [Act.put, List.setIfInBounds_toArray, List.set_cons_zero, List.set_cons_succ, i64_w, i32_w]
                    rfl
                   refine pure_ (i := 5) (N := some 48) (v := ?_) (a' := ?_) #[true, true, true, true, true, true, false, false, false, false, false, false, false, false, false, false] rfl rfl (any_of HT_.out (by kernel_rfl)) (fun _ _ _ h => h) (Or.inl ⟨by rfl, ?_⟩) ?_ ?_
                   rotate_left
                   ·intro w'
                    go_simp
                    with_reducible rfl
                   rotate_left
                   ·simp only [Act.put, List.setIfInBounds_toArray, List.set_cons_zero, List.set_cons_succ, i64_w, i32_w]
                    rfl
                   refine pure_ (i := 7) (N := some 50) (v := ?_) (a' := ?_) #[true, true, true, true, true, true, false, true, false, false, false, false, false, false, false, false] rfl rfl (any_of HT_.out (by kernel_rfl)) (fun _ _ _ h => h) (Or.inl ⟨by rfl, ?_⟩) ?_ ?_
                   rotate_left
                   ·intro w'
                    go_simp
                    with_reducible rfl
                   rotate_left
                   ·simp only [Act.put, List.setIfInBounds_toArray, List.set_cons_zero, List.set_cons_succ, i64_w, i32_w]
                    rfl
                   refine pure_ (i := 10) (N := some 53) (v := ?_) (a' := ?_) #[true, true, true, true, true, true, false, true, false, false, true, false, false, false, false, false] rfl rfl (any_of HT_.out (by kernel_rfl)) (fun _ _ _ h => h) (Or.inl ⟨by rfl, ?_⟩) ?_ ?_
                   rotate_left
                   ·intro w'
                    go_simp
                    with_reducible rfl
                   rotate_left
                   ·simp only [Act.put, List.setIfInBounds_toArray, List.set_cons_zero, List.set_cons_succ, i64_w, i32_w]
                    rfl
                   refine pure_ (i := 13) (N := some 56) (v := ?_) (a' := ?_) #[true, true, true, true, true, true, false, true, false, false, true, false, false, true, false, false] rfl rfl (any_of HT_.out (by kernel_rfl)) (fun _ _ _ h => h) (Or.inl ⟨by rfl, ?_⟩) ?_ ?_
                   rotate_left
                   ·intro w'
                    go_simp
                    with_reducible rfl
                   rotate_left
                   ·simp only [Act.put, List.setIfInBounds_toArray, List.set_cons_zero, List.set_cons_succ, i64_w, i32_w]
                    rfl
                   refine take_ (i := 6) (N := some 49) (v := ?_) (a' := ?_) #[true, true, true, true, true, true, true, true, false, false, true, false, false, true, false, false] rfl rfl (take_ofW HT_.out HW_.out (by kernel_rfl)) (fun _ _ _ h => h) (Or.inl ⟨by rfl, ?_⟩) hHeld ?_ ?_
                   rotate_left
                   ·rintro w' ⟨s0, s1, s2, s3, s4, s5, s6, s7, s8, s9⟩
                    go_simp
                    with_reducible rfl
                   rotate_left
                   ·simp only [Act.put, List.setIfInBounds_toArray, List.set_cons_zero, List.set_cons_succ, i64_w, i32_w]
                    rfl
                   refine take_ (i := 9) (N := some 52) (v := ?_) (a' := ?_) #[true, true, true, true, true, true, true, true, false, true, true, false, false, true, false, false] rfl rfl (take_ofW HT_.out HW_.out (by kernel_rfl)) (fun _ _ _ h => h) (Or.inl ⟨by rfl, ?_⟩) hHeld ?_ ?_
                   rotate_left
                   ·rintro w' ⟨s0, s1, s2, s3, s4, s5, s6, s7, s8, s9⟩
                    go_simp
                    with_reducible rfl
                   rotate_left
                   ·simp only [Act.put, List.setIfInBounds_toArray, List.set_cons_zero, List.set_cons_succ, i64_w, i32_w]
                    rfl
                   refine one_ (i := 8) (N := some 51) #[true, true, true, true, true, true, true, true, true, true, true, false, false, true, false, false] rfl rfl (one_of HT_.out (by kernel_rfl)) (by decide) (fun K hK => ?_)
                   refine goes_ Tryd.func27 (by kernel_rfl) rfl #[.agg #[.int .i64 ((rd_T42 l0 x29_2).f0), .string ((rd_T42 l0 x29_2).f1), .int .i64 ((rd_T42 l0 x29_2).f2), .int .i64 ((rd_T42 l0 x29_2).f3), .int .i64 ((rd_T42 l0 x29_2).f4)], .int .i64 a1] (by rfl) rfl rfl (zM) ?_
                   with_reducible refine (impl_Shade_faded.calls ((rd_T42 l0 x29_2).f0) ((rd_T42 l0 x29_2).f1) ((rd_T42 l0 x29_2).f2) ((rd_T42 l0 x29_2).f3) ((rd_T42 l0 x29_2).f4) a1 t321 t322 t323 t324 t325 _ A31.out).mono ?_
                   rintro e w42 ⟨rfl, hb⟩
                   refine ⟨_, rfl, ?_⟩
                   have n0_ := zA (Kd.S_below (by (with_reducible repeat (first | apply Kd.S_alloc | apply Kd.S_drewN | apply Kd.S_drew)); exact HO_8.out) hb); have n1_ := zL BK313 hb; have n2_ := zL BK319 hb; have n3_ := zA (below_step (zW2 HB GE313 GE319) hb); clear HO_8; clear BK313; clear BK319; clear HB; have HO_8 := n0_; have BK313 := n1_; have BK319 := n2_; have HB := n3_; clear n0_ n1_ n2_ n3_; (try clear hb); (try clear hb2); (try clear hk); (try clear hi)
                   refine hK.out _ _ ⟨(blk_cell BK313.out 0).trans rfl, (blk_cell BK313.out 1).trans rfl, (blk_cell BK313.out 2).trans rfl, (blk_cell BK313.out 3).trans rfl, (blk_cell BK313.out 4).trans rfl, (blk_cell BK319.out 0).trans rfl, (blk_cell BK319.out 1).trans rfl, (blk_cell BK319.out 2).trans rfl, (blk_cell BK319.out 3).trans rfl, (blk_cell BK319.out 4).trans rfl⟩ (fun hHeld => ?_)
                   clear hK K
                   refine norm_ (a' := ?_) ?_ ?_
                   rotate_left
                   ·show Act.put _ (some 51) _ = _
                    simp only [Act.put, List.setIfInBounds_toArray, List.set_cons_zero, List.set_cons_succ, i64_w, i32_w]
                    rfl
                   refine one_ (i := 11) (N := some 54) #[true, true, true, true, true, true, true, true, true, true, true, true, false, true, false, false] rfl rfl (one_of HT_.out (by kernel_rfl)) (by decide) (fun K hK => ?_)
                   refine goes_ Tryd.func27 (by kernel_rfl) rfl #[.agg #[.int .i64 ((rd_T42 y314 x39_3).f0), .string ((rd_T42 y314 x39_3).f1), .int .i64 ((rd_T42 y314 x39_3).f2), .int .i64 ((rd_T42 y314 x39_3).f3), .int .i64 ((rd_T42 y314 x39_3).f4)], .int .i64 a1] (by rfl) rfl rfl (zM) ?_
                   with_reducible refine (impl_Shade_faded.calls ((rd_T42 y314 x39_3).f0) ((rd_T42 y314 x39_3).f1) ((rd_T42 y314 x39_3).f2) ((rd_T42 y314 x39_3).f3) ((rd_T42 y314 x39_3).f4) a1 t326 t327 t328 t329 t330 _ A32.out).mono ?_
                   rintro e w43 ⟨rfl, hb⟩
                   refine ⟨_, rfl, ?_⟩
                   have n0_ := zA (Kd.S_below (by (with_reducible repeat (first | apply Kd.S_alloc | apply Kd.S_drewN | apply Kd.S_drew)); exact HO_8.out) hb); have n1_ := zL BK313 hb; have n2_ := zL BK319 hb; have n3_ := zA (below_step (zW2 HB GE313 GE319) hb); clear HO_8; clear BK313; clear BK319; clear HB; have HO_8 := n0_; have BK313 := n1_; have BK319 := n2_; have HB := n3_; clear n0_ n1_ n2_ n3_; (try clear hb); (try clear hb2); (try clear hk); (try clear hi)
                   refine hK.out _ _ ⟨(blk_cell BK313.out 0).trans rfl, (blk_cell BK313.out 1).trans rfl, (blk_cell BK313.out 2).trans rfl, (blk_cell BK313.out 3).trans rfl, (blk_cell BK313.out 4).trans rfl, (blk_cell BK319.out 0).trans rfl, (blk_cell BK319.out 1).trans rfl, (blk_cell BK319.out 2).trans rfl, (blk_cell BK319.out 3).trans rfl, (blk_cell BK319.out 4).trans rfl⟩ (fun hHeld => ?_)
                   clear hK K
                   refine norm_ (a' := ?_) ?_ ?_
                   rotate_left
                   ·show Act.put _ (some 54) _ = _
                    simp only [Act.put, List.setIfInBounds_toArray, List.set_cons_zero, List.set_cons_succ, i64_w, i32_w]
                    rfl
                   refine one_ (i := 12) (N := some 55) #[true, true, true, true, true, true, true, true, true, true, true, true, true, true, false, false] rfl rfl (one_of HT_.out (by kernel_rfl)) (by decide) (fun K hK => ?_)
                   refine goes_ Tryd.func26 (by kernel_rfl) rfl #[.agg #[.int .i64 t321, .string t322, .int .i64 t323, .int .i64 t324, .int .i64 t325], .agg #[.int .i64 t326, .string t327, .int .i64 t328, .int .i64 t329, .int .i64 t330]] (by rfl) rfl rfl (zM) ?_
                   with_reducible refine (impl_Shade_distance.calls t321 t322 t323 t324 t325 t326 t327 t328 t329 t330 t331 _ A33.out).mono ?_
                   rintro e w44 ⟨rfl, hb⟩
                   refine ⟨_, rfl, ?_⟩
                   have n0_ := zA (Kd.S_below (by (with_reducible repeat (first | apply Kd.S_alloc | apply Kd.S_drewN | apply Kd.S_drew)); exact HO_8.out) hb); have n1_ := zL BK313 hb; have n2_ := zL BK319 hb; have n3_ := zA (below_step (zW2 HB GE313 GE319) hb); clear HO_8; clear BK313; clear BK319; clear HB; have HO_8 := n0_; have BK313 := n1_; have BK319 := n2_; have HB := n3_; clear n0_ n1_ n2_ n3_; (try clear hb); (try clear hb2); (try clear hk); (try clear hi)
                   refine hK.out _ _ ⟨(blk_cell BK313.out 0).trans rfl, (blk_cell BK313.out 1).trans rfl, (blk_cell BK313.out 2).trans rfl, (blk_cell BK313.out 3).trans rfl, (blk_cell BK313.out 4).trans rfl, (blk_cell BK319.out 0).trans rfl, (blk_cell BK319.out 1).trans rfl, (blk_cell BK319.out 2).trans rfl, (blk_cell BK319.out 3).trans rfl, (blk_cell BK319.out 4).trans rfl⟩ (fun hHeld => ?_)
                   clear hK K
                   refine norm_ (a' := ?_) ?_ ?_
                   rotate_left
                   ·show Act.put _ (some 55) _ = _
                    simp only [Act.put, List.setIfInBounds_toArray, List.set_cons_zero, List.set_cons_succ, i64_w, i32_w]
                    rfl
                   refine pure_ (i := 14) (N := some 57) (v := ?_) (a' := ?_) #[true, true, true, true, true, true, true, true, true, true, true, true, true, true, true, false] rfl rfl (any_of HT_.out (by kernel_rfl)) (fun _ _ _ h => h) (Or.inl ⟨by rfl, ?_⟩) ?_ ?_
                   rotate_left
                   ·intro w'
                    go_simp
                    with_reducible rfl
                   rotate_left
                   ·simp only [Act.put, List.setIfInBounds_toArray, List.set_cons_zero, List.set_cons_succ, i64_w, i32_w]
                    rfl
                   refine pure_ (i := 15) (N := some 58) (v := ?_) (a' := ?_) #[true, true, true, true, true, true, true, true, true, true, true, true, true, true, true, true] rfl rfl (any_of HT_.out (by kernel_rfl)) (fun _ _ _ h => h) (Or.inl ⟨by rfl, ?_⟩) ?_ ?_
                   rotate_left
                   ·intro w'
                    go_simp
                    with_reducible rfl
                   rotate_left
                   ·simp only [Act.put, List.setIfInBounds_toArray, List.set_cons_zero, List.set_cons_succ, i64_w, i32_w]
                    rfl
                   refine done_ (done_of HT_.out (by kernel_rfl)) ?_
                   have hcz45_0 : w44.cell? ⟨gb313, 0, none⟩ = some (.int .i64 ((rd_T42 l0 x29_2).f0)) := (blk_cell BK313.out 0).trans rfl; have hcz45_1 : w44.cell? ⟨gb313, 1, none⟩ = some (.string ((rd_T42 l0 x29_2).f1)) := (blk_cell BK313.out 1).trans rfl; have hcz45_2 : w44.cell? ⟨gb313, 2, none⟩ = some (.int .i64 ((rd_T42 l0 x29_2).f2)) := (blk_cell BK313.out 2).trans rfl; have hcz45_3 : w44.cell? ⟨gb313, 3, none⟩ = some (.int .i64 ((rd_T42 l0 x29_2).f3)) := (blk_cell BK313.out 3).trans rfl; have hcz45_4 : w44.cell? ⟨gb313, 4, none⟩ = some (.int .i64 ((rd_T42 l0 x29_2).f4)) := (blk_cell BK313.out 4).trans rfl; have hfz45_0 := blk_frozen BK313.out 0; have hfz45_1 := blk_frozen BK313.out 1; have hfz45_2 := blk_frozen BK313.out 2; have hfz45_3 := blk_frozen BK313.out 3; have hfz45_4 := blk_frozen BK313.out 4; have hcz46_0 : w44.cell? ⟨gb319, 0, none⟩ = some (.int .i64 ((rd_T42 y314 x39_3).f0)) := (blk_cell BK319.out 0).trans rfl; have hcz46_1 : w44.cell? ⟨gb319, 1, none⟩ = some (.string ((rd_T42 y314 x39_3).f1)) := (blk_cell BK319.out 1).trans rfl; have hcz46_2 : w44.cell? ⟨gb319, 2, none⟩ = some (.int .i64 ((rd_T42 y314 x39_3).f2)) := (blk_cell BK319.out 2).trans rfl; have hcz46_3 : w44.cell? ⟨gb319, 3, none⟩ = some (.int .i64 ((rd_T42 y314 x39_3).f3)) := (blk_cell BK319.out 3).trans rfl; have hcz46_4 : w44.cell? ⟨gb319, 4, none⟩ = some (.int .i64 ((rd_T42 y314 x39_3).f4)) := (blk_cell BK319.out 4).trans rfl; have hfz46_0 := blk_frozen BK319.out 0; have hfz46_1 := blk_frozen BK319.out 1; have hfz46_2 := blk_frozen BK319.out 2; have hfz46_3 := blk_frozen BK319.out 3; have hfz46_4 := blk_frozen BK319.out 4
                   try go_wp2_with (first | ((with_reducible refine gate_dst (N := 64) rfl ?_); refine Kd.R_lit (Kd.int .i64) _ 3 ?hg (N := 64) ?hd (xs := ([((rd_T42 l0 x29_2).f0), (rd_T42 y314 x39_3).f0] : List Int)) (inner := [.int .i64 ((rd_T42 l0 x29_2).f0), .int .i64 ((rd_T42 y314 x39_3).f0)]) (ok := fun _ => True) (okp := fun _ => True) ?hr ?hp (fun _ hk => hk) trivial (Below.refl _ _) (Nat.le_refl _) (by simp) ?_; (case hd => rfl); (case hg => rfl); (case hr => first | (go_simp; done) | (go_simp; rfl)); (case hp => exact (Reps.one (show Kd.M (Kd.int .i64) _ _ _ ((rd_T42 l0 x29_2).f0) [.int .i64 ((rd_T42 l0 x29_2).f0)] from rfl) (Reps.one (show Kd.M (Kd.int .i64) _ _ _ ((rd_T42 y314 x39_3).f0) [.int .i64 ((rd_T42 y314 x39_3).f0)] from rfl) (Reps.none _ _)))); intro v333 w47 ho48 hb hg_ hnew_; clear hg_ hnew_; (first | rw [← Ny332.out] at ho48 | (simp only [Int.reduceToNat] at ho48; rw [← Ny332.out] at ho48)); have n0_ := zA (Kd.S_elder' (by (with_reducible repeat (first | apply Kd.S_alloc | apply Kd.S_drewN | apply Kd.S_drew)); exact HO_8.out) (Kd.R_base ho48) hb); have n1_ := zA (Kd.R_lower ho48 (below_size (zW2 HB GE313 GE319))); have n2_ := zL BK313 hb; have n3_ := zL BK319 hb; have n4_ := zA (below_step (zW2 HB GE313 GE319) hb); clear HO_8; clear BK313; clear BK319; clear HB; have HO_8 := n0_; have HO334 := n1_; have BK313 := n2_; have BK319 := n3_; have HB := n4_; clear n0_ n1_ n2_ n3_ n4_; clear hb ho48; obtain ⟨Ao50, co50, eo50⟩ := Kd.R_slice HO334.out; subst eo50) | ((with_reducible refine gate_builtin (b := .append) (xs := #[.tmp 59, .tmp 65]) rfl ?_); at_builtin; refine Kd.S_append (Kd.slice 3 (Kd.int .i64)) (w0 := w) w.heap.size rfl (.tmp 59) (.tmp 65) 24 45 (.slice none 0 0) 24 rfl Tryd.underlying24 info45 rfl (by decide) (by omega) u8 x8_3 y332 [.slice Ao50 y332.length co50] (fun _ => True) (fun k_ => some k_ = (.slice Ao50 y332.length co50 : Value).ownBlock) rfl rfl ?aP (fun k_ hk_ => ((Kd.R_mono (ok' := fun k_ => ((fun _ => True)) k_ ∧ some k_ ≠ (u8 : Value).ownBlock) (Kd.R_apart' (HO334.out) (Kd.S_typed HO_8.out) (by decide)) (fun k_ hk => ⟨trivial, hk.2⟩))).1 k_ hk_.symm) ?aF ?aO ?aB ?aS ?aL ?_; (case aP => exact Kd.M_row (Kd.R_mono (Kd.R_tight rfl (Kd.R_mono (ok' := fun k_ => ((fun _ => True)) k_ ∧ some k_ ≠ (u8 : Value).ownBlock) (Kd.R_apart' (HO334.out) (Kd.S_typed HO_8.out) (by decide)) (fun k_ hk => ⟨trivial, hk.2⟩))) (fun _ h_ => h_))); (case aB => exact (zW2 HB GE313 GE319)); (case aF => exact (fun _ _ => trivial)); (case aO => exact (by (with_reducible repeat (first | apply Kd.S_alloc | apply Kd.S_drewN | apply Kd.S_drew)); exact Kd.S_mono HO_8.out (fun k_ hk => ⟨trivial, fun e_ => hk.2 e_⟩))); (case aS => exact (below_size (zW2 HB GE313 GE319))); (case aL => have := LMc35.out; omega); intro v336 w49 ho hb hg hat; rw [← Ny335.out] at ho; have n0_ := zA (blk_grown (g := gb313) (o := .cells #[.int .i64 ((rd_T42 l0 x29_2).f0), .string ((rd_T42 l0 x29_2).f1), .int .i64 ((rd_T42 l0 x29_2).f2), .int .i64 ((rd_T42 l0 x29_2).f3), .int .i64 ((rd_T42 l0 x29_2).f4)] 42 (0, 0)) (zB BK313) hg (Kd.S_ne HO_8.out BK313.out (by decide))); have n1_ := zA (blk_grown (g := gb319) (o := .cells #[.int .i64 ((rd_T42 y314 x39_3).f0), .string ((rd_T42 y314 x39_3).f1), .int .i64 ((rd_T42 y314 x39_3).f2), .int .i64 ((rd_T42 y314 x39_3).f3), .int .i64 ((rd_T42 y314 x39_3).f4)] 42 (0, 0)) (zB BK319) hg (Kd.S_ne HO_8.out BK319.out (by decide))); have n2_ := zA (hb); have n3_ := zA (ho); clear BK313; clear BK319; clear HB; clear HO_8; clear HO334; have BK313 := n0_; have BK319 := n1_; have HB := n2_; have HO337 := n3_; clear n0_ n1_ n2_ n3_; clear ho hb hg hat))
                   go_roundg k3
                   case measure => have := HJ3.out; have := HK2.out; have := HK3.out; omega
                   case rel => exact ⟨(y335), (wrap64 (x39_3 + 1)), (by first | rfl | (simp; done) | (simp [*]; done)), H', ⟨by have := HJ3.out; have := HK2.out; have := HK3.out; omega⟩, ⟨by (with_reducible repeat (first | apply Kd.S_alloc | apply Kd.S_drewN | apply Kd.S_drew)); exact HO337.out⟩, ⟨zB BK313⟩, ⟨by repeat (first | (with_reducible first | exact HB.out | apply below_alloc | apply pw_below_drewN | apply below_drew1 | refine below_set ?_ GE313.out | refine below_set ?_ GE319.out) | exact HB.out)⟩⟩
                  ·rw [if_neg c35] at H
                   exact absurd H (by simp)
                 ·rw [if_neg c34] at H
                  have c34b0 : decide (t331 < a2) = false := decide_eq_false c34; clear c34; have H' := zA H; clear H; have p318 : 0 ≤ (x39_3 : Int) := of_decide_eq_true (by first | (with_reducible assumption) | assumption); have q318 : x39_3 < (y314.length : Int) := of_decide_eq_true (by first | (with_reducible assumption) | assumption)
                  obtain ⟨ad318, e318, hx318_0, hx318_1, hx318_2, hx318_3, hx318_4⟩ := at_T42 HR317.out x39_3 p318 q318
                  cases e318
                  replace hx318_0 := (HB.out.cell (World.block_lt_of_cell? w _ hx318_0)).trans hx318_0
                  replace hx318_1 := (HB.out.cell (World.block_lt_of_cell? w _ hx318_1)).trans hx318_1
                  replace hx318_2 := (HB.out.cell (World.block_lt_of_cell? w _ hx318_2)).trans hx318_2
                  replace hx318_3 := (HB.out.cell (World.block_lt_of_cell? w _ hx318_3)).trans hx318_3
                  replace hx318_4 := (HB.out.cell (World.block_lt_of_cell? w _ hx318_4)).trans hx318_4
                  replace p318 := eq_true p318
                  replace q318 := eq_true q318
                  try go_wp2_with (first | ((with_reducible refine gate_dst (N := 12) rfl ?_); refine box_event ?hg (N := 12) ?hd (cs := #[.int .i64 0, .string (⟨#[]⟩ : ByteArray), .int .i64 0, .int .i64 0, .int .i64 0]) (t := 42) ?hr ?_; (case hd => rfl); (case hg => rfl); (case hr => first | (go_simp; done) | (go_simp; rfl)); intro gb319 hg w51 hbox hb; have n0_ := zA (Kd.S_below (by (with_reducible repeat (first | apply Kd.S_alloc | apply Kd.S_drewN | apply Kd.S_drew)); exact HO_8.out) hb); have n1_ := zL BK313 hb; have n2_ := zA (below_step (zW1 HB GE313) hb); have n3_ := zA (hbox); have n4_ := zA ((by rw [hg]; exact (below_size (zW1 HB GE313)) : w.heap.size ≤ gb319)); have n5_ := zA ((by rw [hg]; exact (below_size (zW1 HB GE313)) : w.heap.size ≤ gb319)); have n6_ := zA ((by rw [hg]; exact Nat.ne_of_lt (zT BK313) : gb313 ≠ gb319)); have n7_ := zA ((by rw [hg]; exact Nat.ne_of_gt (zT BK313) : gb319 ≠ gb313)); clear HO_8; clear BK313; clear HB; have HO_8 := n0_; have BK313 := n1_; have HB := n2_; have BK319 := n3_; have GW319 := n4_; have GE319 := n5_; have NB313_319 := n6_; have NB319_313 := n7_; clear n0_ n1_ n2_ n3_ n4_ n5_ n6_ n7_; clear hb hbox hg; have hnb52 := NB319_313.out; have hnc52 := NB313_319.out; have hcz53_0 : w51.cell? ⟨gb319, 0, none⟩ = some (.int .i64 0) := (blk_cell BK319.out 0).trans rfl; have hcz53_1 : w51.cell? ⟨gb319, 1, none⟩ = some (.string (⟨#[]⟩ : ByteArray)) := (blk_cell BK319.out 1).trans rfl; have hcz53_2 : w51.cell? ⟨gb319, 2, none⟩ = some (.int .i64 0) := (blk_cell BK319.out 2).trans rfl; have hcz53_3 : w51.cell? ⟨gb319, 3, none⟩ = some (.int .i64 0) := (blk_cell BK319.out 3).trans rfl; have hcz53_4 : w51.cell? ⟨gb319, 4, none⟩ = some (.int .i64 0) := (blk_cell BK319.out 4).trans rfl; have hfz53_0 := blk_frozen BK319.out 0; have hfz53_1 := blk_frozen BK319.out 1; have hfz53_2 := blk_frozen BK319.out 2; have hfz53_3 := blk_frozen BK319.out 3; have hfz53_4 := blk_frozen BK319.out 4))
                  have n0_ : Aside0 (Kd.S (Kd.slice 3 (Kd.int .i64)) 45 (((((w51.setCell ⟨gb319, 0, none⟩ (.int .i64 ((rd_T42 y314 x39_3).f0))).setCell ⟨gb319, 1, none⟩ (.string ((rd_T42 y314 x39_3).f1))).setCell ⟨gb319, 2, none⟩ (.int .i64 ((rd_T42 y314 x39_3).f2))).setCell ⟨gb319, 3, none⟩ (.int .i64 ((rd_T42 y314 x39_3).f3))).setCell ⟨gb319, 4, none⟩ (.int .i64 ((rd_T42 y314 x39_3).f4))) w.heap.size (fun _ => True) u8 x8_3) := ⟨by (with_reducible repeat (first | apply Kd.S_alloc | apply Kd.S_drewN | apply Kd.S_drew)); exact Kd.S_mono (Kd.S_far (p := ⟨gb319, 4, none⟩) (Kd.S_far (p := ⟨gb319, 3, none⟩) (Kd.S_far (p := ⟨gb319, 2, none⟩) (Kd.S_far (p := ⟨gb319, 1, none⟩) (Kd.S_far (p := ⟨gb319, 0, none⟩) (Kd.S_types HO_8.out BK319.out (by decide)) (fun _ hk => hk.2) (.int .i64 ((rd_T42 y314 x39_3).f0))) (fun _ hk => hk.2) (.string ((rd_T42 y314 x39_3).f1))) (fun _ hk => hk.2) (.int .i64 ((rd_T42 y314 x39_3).f2))) (fun _ hk => hk.2) (.int .i64 ((rd_T42 y314 x39_3).f3))) (fun _ hk => hk.2) (.int .i64 ((rd_T42 y314 x39_3).f4))) (fun _ hk => trivial)⟩; have n1_ : Aside0 ((((((w51.setCell ⟨gb319, 0, none⟩ (.int .i64 ((rd_T42 y314 x39_3).f0))).setCell ⟨gb319, 1, none⟩ (.string ((rd_T42 y314 x39_3).f1))).setCell ⟨gb319, 2, none⟩ (.int .i64 ((rd_T42 y314 x39_3).f2))).setCell ⟨gb319, 3, none⟩ (.int .i64 ((rd_T42 y314 x39_3).f3))).setCell ⟨gb319, 4, none⟩ (.int .i64 ((rd_T42 y314 x39_3).f4))).heap[gb313]? = some (.cells #[.int .i64 ((rd_T42 l0 x29_2).f0), .string ((rd_T42 l0 x29_2).f1), .int .i64 ((rd_T42 l0 x29_2).f2), .int .i64 ((rd_T42 l0 x29_2).f3), .int .i64 ((rd_T42 l0 x29_2).f4)] 42 (0, 0))) := ⟨by (with_reducible repeat (first | refine blk_drewN ?_ _ | refine blk_drew ?_ | refine blk_alloc ?_ _)); refine blk_far ?_ NB313_319.out _; (with_reducible repeat (first | refine blk_drewN ?_ _ | refine blk_drew ?_ | refine blk_alloc ?_ _)); refine blk_far ?_ NB313_319.out _; (with_reducible repeat (first | refine blk_drewN ?_ _ | refine blk_drew ?_ | refine blk_alloc ?_ _)); refine blk_far ?_ NB313_319.out _; (with_reducible repeat (first | refine blk_drewN ?_ _ | refine blk_drew ?_ | refine blk_alloc ?_ _)); refine blk_far ?_ NB313_319.out _; (with_reducible repeat (first | refine blk_drewN ?_ _ | refine blk_drew ?_ | refine blk_alloc ?_ _)); refine blk_far ?_ NB313_319.out _; (with_reducible repeat (first | refine blk_drewN ?_ _ | refine blk_drew ?_ | refine blk_alloc ?_ _)); exact BK313.out⟩; have n2_ : Aside0 ((((((w51.setCell ⟨gb319, 0, none⟩ (.int .i64 ((rd_T42 y314 x39_3).f0))).setCell ⟨gb319, 1, none⟩ (.string ((rd_T42 y314 x39_3).f1))).setCell ⟨gb319, 2, none⟩ (.int .i64 ((rd_T42 y314 x39_3).f2))).setCell ⟨gb319, 3, none⟩ (.int .i64 ((rd_T42 y314 x39_3).f3))).setCell ⟨gb319, 4, none⟩ (.int .i64 ((rd_T42 y314 x39_3).f4))).heap[gb319]? = some (.cells #[.int .i64 ((rd_T42 y314 x39_3).f0), .string ((rd_T42 y314 x39_3).f1), .int .i64 ((rd_T42 y314 x39_3).f2), .int .i64 ((rd_T42 y314 x39_3).f3), .int .i64 ((rd_T42 y314 x39_3).f4)] 42 (0, 0))) := ⟨by (with_reducible repeat (first | refine blk_drewN ?_ _ | refine blk_drew ?_ | refine blk_alloc ?_ _)); refine blk_put (cs := #[.int .i64 ((rd_T42 y314 x39_3).f0), .string ((rd_T42 y314 x39_3).f1), .int .i64 ((rd_T42 y314 x39_3).f2), .int .i64 ((rd_T42 y314 x39_3).f3), .int .i64 0]) ?_ 4 _ rfl; (with_reducible repeat (first | refine blk_drewN ?_ _ | refine blk_drew ?_ | refine blk_alloc ?_ _)); refine blk_put (cs := #[.int .i64 ((rd_T42 y314 x39_3).f0), .string ((rd_T42 y314 x39_3).f1), .int .i64 ((rd_T42 y314 x39_3).f2), .int .i64 0, .int .i64 0]) ?_ 3 _ rfl; (with_reducible repeat (first | refine blk_drewN ?_ _ | refine blk_drew ?_ | refine blk_alloc ?_ _)); refine blk_put (cs := #[.int .i64 ((rd_T42 y314 x39_3).f0), .string ((rd_T42 y314 x39_3).f1), .int .i64 0, .int .i64 0, .int .i64 0]) ?_ 2 _ rfl; (with_reducible repeat (first | refine blk_drewN ?_ _ | refine blk_drew ?_ | refine blk_alloc ?_ _)); refine blk_put (cs := #[.int .i64 ((rd_T42 y314 x39_3).f0), .string (⟨#[]⟩ : ByteArray), .int .i64 0, .int .i64 0, .int .i64 0]) ?_ 1 _ rfl; (with_reducible repeat (first | refine blk_drewN ?_ _ | refine blk_drew ?_ | refine blk_alloc ?_ _)); refine blk_put (cs := #[.int .i64 0, .string (⟨#[]⟩ : ByteArray), .int .i64 0, .int .i64 0, .int .i64 0]) ?_ 0 _ rfl; (with_reducible repeat (first | refine blk_drewN ?_ _ | refine blk_drew ?_ | refine blk_alloc ?_ _)); exact BK319.out⟩; have n3_ : Aside0 (Below w.heap.size w (((((w51.setCell ⟨gb319, 0, none⟩ (.int .i64 ((rd_T42 y314 x39_3).f0))).setCell ⟨gb319, 1, none⟩ (.string ((rd_T42 y314 x39_3).f1))).setCell ⟨gb319, 2, none⟩ (.int .i64 ((rd_T42 y314 x39_3).f2))).setCell ⟨gb319, 3, none⟩ (.int .i64 ((rd_T42 y314 x39_3).f3))).setCell ⟨gb319, 4, none⟩ (.int .i64 ((rd_T42 y314 x39_3).f4)))) := ⟨by repeat (first | (with_reducible first | exact HB.out | apply below_alloc | apply pw_below_drewN | apply below_drew1 | refine below_set ?_ GE313.out | refine below_set ?_ GE319.out) | exact HB.out)⟩; (try clear HO_8); (try clear BK313); (try clear BK319); (try clear HB)
                  generalize (((((w51.setCell ⟨gb319, 0, none⟩ (.int .i64 ((rd_T42 y314 x39_3).f0))).setCell ⟨gb319, 1, none⟩ (.string ((rd_T42 y314 x39_3).f1))).setCell ⟨gb319, 2, none⟩ (.int .i64 ((rd_T42 y314 x39_3).f2))).setCell ⟨gb319, 3, none⟩ (.int .i64 ((rd_T42 y314 x39_3).f3))).setCell ⟨gb319, 4, none⟩ (.int .i64 ((rd_T42 y314 x39_3).f4))) = w54 at n0_ n1_ n2_ n3_ ⊢
                  have HO_8 := n0_; have BK313 := n1_; have BK319 := n2_; have HB := n3_; clear n0_ n1_ n2_ n3_; have n0_ := zA (Kd.S_drew HO_8.out); have n1_ := zA (blk_drew BK313.out); have n2_ := zA (blk_drew BK319.out); have n3_ := zA (below_drew1 HB.out); clear HO_8; clear BK313; clear BK319; clear HB; have HO_8 := n0_; have BK313 := n1_; have BK319 := n2_; have HB := n3_; clear n0_ n1_ n2_ n3_
                  refine start_ (n := 16) (S := fun w' => w'.cell? ⟨gb313, 0, none⟩ = some (.int .i64 ((rd_T42 l0 x29_2).f0)) ∧ w'.cell? ⟨gb313, 1, none⟩ = some (.string ((rd_T42 l0 x29_2).f1)) ∧ w'.cell? ⟨gb313, 2, none⟩ = some (.int .i64 ((rd_T42 l0 x29_2).f2)) ∧ w'.cell? ⟨gb313, 3, none⟩ = some (.int .i64 ((rd_T42 l0 x29_2).f3)) ∧ w'.cell? ⟨gb313, 4, none⟩ = some (.int .i64 ((rd_T42 l0 x29_2).f4)) ∧ w'.cell? ⟨gb319, 0, none⟩ = some (.int .i64 ((rd_T42 y314 x39_3).f0)) ∧ w'.cell? ⟨gb319, 1, none⟩ = some (.string ((rd_T42 y314 x39_3).f1)) ∧ w'.cell? ⟨gb319, 2, none⟩ = some (.int .i64 ((rd_T42 y314 x39_3).f2)) ∧ w'.cell? ⟨gb319, 3, none⟩ = some (.int .i64 ((rd_T42 y314 x39_3).f3)) ∧ w'.cell? ⟨gb319, 4, none⟩ = some (.int .i64 ((rd_T42 y314 x39_3).f4))) (ds := []) #[false, false, false, false, false, false, false, false, false, false, false, false, false, false, false, false] (by kernel_rfl) rfl rfl ⟨(blk_cell BK313.out 0).trans rfl, (blk_cell BK313.out 1).trans rfl, (blk_cell BK313.out 2).trans rfl, (blk_cell BK313.out 3).trans rfl, (blk_cell BK313.out 4).trans rfl, (blk_cell BK319.out 0).trans rfl, (blk_cell BK319.out 1).trans rfl, (blk_cell BK319.out 2).trans rfl, (blk_cell BK319.out 3).trans rfl, (blk_cell BK319.out 4).trans rfl⟩ (fun hHeld => ?_); refine with_tabW impl_FadedApart.tab10 impl_FadedApart.bits10 (fun HT_ HW_ => ?_)
                  generalize w54.drew = w55 at HO_8 BK313 BK319 HB hHeld ⊢
                  refine pure_ (i := 3) (N := some 46) (v := ?_) (a' := ?_) #[false, false, false, true, false, false, false, false, false, false, false, false, false, false, false, false] rfl rfl (any_of HT_.out (by kernel_rfl)) (fun _ _ _ h => h) (Or.inl ⟨by rfl, ?_⟩) ?_ ?_
                  rotate_left
                  ·intro w'
                   go_simp
                   with_reducible rfl
                  rotate_left
                  ·simp only [Act.put, List.setIfInBounds_toArray, List.set_cons_zero, List.set_cons_succ, i64_w, i32_w]
                   rfl
                  refine take_ (i := 0) (N := some 43) (v := ?_) (a' := ?_) #[true, false, false, true, false, false, false, false, false, false, false, false, false, false, false, false] rfl rfl (take_ofW HT_.out HW_.out (by kernel_rfl)) (fun _ _ _ h => h) (Or.inl ⟨by rfl, ?_⟩) hHeld ?_ ?_
                  rotate_left
                  ·rintro w' ⟨s0, s1, s2, s3, s4, s5, s6, s7, s8, s9⟩
                   go_simp
                   with_reducible rfl
                  rotate_left
                  ·simp only [Act.put, List.setIfInBounds_toArray, List.set_cons_zero, List.set_cons_succ, i64_w, i32_w]
                   rfl
                  refine take_ (i := 1) (N := some 44) (v := ?_) (a' := ?_) #[true, true, false, true, false, false, false, false, false, false, false, false, false, false, false, false] rfl rfl (take_ofW HT_.out HW_.out (by kernel_rfl)) (fun _ _ _ h => h) (Or.inl ⟨by rfl, ?_⟩) hHeld ?_ ?_
                  rotate_left
                  ·rintro w' ⟨s0, s1, s2, s3, s4, s5, s6, s7, s8, s9⟩
                   go_simp
                   with_reducible rfl
                  rotate_left
                  ·simp only [Act.put, List.setIfInBounds_toArray, List.set_cons_zero, List.set_cons_succ, i64_w, i32_w]
                   rfl
                  refine one_ (i := 2) (N := some 45) #[true, true, true, true, false, false, false, false, false, false, false, false, false, false, false, false] rfl rfl (one_of HT_.out (by kernel_rfl)) (by decide) (fun K hK => ?_)
                  refine goes_ Tryd.func26 (by kernel_rfl) rfl #[.agg #[.int .i64 ((rd_T42 l0 x29_2).f0), .string ((rd_T42 l0 x29_2).f1), .int .i64 ((rd_T42 l0 x29_2).f2), .int .i64 ((rd_T42 l0 x29_2).f3), .int .i64 ((rd_T42 l0 x29_2).f4)], .agg #[.int .i64 ((rd_T42 y314 x39_3).f0), .string ((rd_T42 y314 x39_3).f1), .int .i64 ((rd_T42 y314 x39_3).f2), .int .i64 ((rd_T42 y314 x39_3).f3), .int .i64 ((rd_T42 y314 x39_3).f4)]] (by rfl) rfl rfl (zM) ?_
                  with_reducible refine (impl_Shade_distance.calls ((rd_T42 l0 x29_2).f0) ((rd_T42 l0 x29_2).f1) ((rd_T42 l0 x29_2).f2) ((rd_T42 l0 x29_2).f3) ((rd_T42 l0 x29_2).f4) ((rd_T42 y314 x39_3).f0) ((rd_T42 y314 x39_3).f1) ((rd_T42 y314 x39_3).f2) ((rd_T42 y314 x39_3).f3) ((rd_T42 y314 x39_3).f4) t320 _ A29.out).mono ?_
                  rintro e w56 ⟨rfl, hb⟩
                  refine ⟨_, rfl, ?_⟩
                  have n0_ := zA (Kd.S_below (by (with_reducible repeat (first | apply Kd.S_alloc | apply Kd.S_drewN | apply Kd.S_drew)); exact HO_8.out) hb); have n1_ := zL BK313 hb; have n2_ := zL BK319 hb; have n3_ := zA (below_step (zW2 HB GE313 GE319) hb); clear HO_8; clear BK313; clear BK319; clear HB; have HO_8 := n0_; have BK313 := n1_; have BK319 := n2_; have HB := n3_; clear n0_ n1_ n2_ n3_; (try clear hb); (try clear hb2); (try clear hk); (try clear hi)
                  refine hK.out _ _ ⟨(blk_cell BK313.out 0).trans rfl, (blk_cell BK313.out 1).trans rfl, (blk_cell BK313.out 2).trans rfl, (blk_cell BK313.out 3).trans rfl, (blk_cell BK313.out 4).trans rfl, (blk_cell BK319.out 0).trans rfl, (blk_cell BK319.out 1).trans rfl, (blk_cell BK319.out 2).trans rfl, (blk_cell BK319.out 3).trans rfl, (blk_cell BK319.out 4).trans rfl⟩ (fun hHeld => ?_)
                  clear hK K
                  refine norm_ (a' := ?_) ?_ ?_
                  rotate_left
                  ·show Act.put _ (some 45) _ = _
                   simp only [Act.put, List.setIfInBounds_toArray, List.set_cons_zero, List.set_cons_succ, i64_w, i32_w]
                   rfl
                  refine pure_ (i := 4) (N := some 47) (v := ?_) (a' := ?_) #[true, true, true, true, true, false, false, false, false, false, false, false, false, false, false, false] rfl rfl (any_of HT_.out (by kernel_rfl)) (fun _ _ _ h => h) (Or.inl ⟨by rfl, ?_⟩) ?_ ?_
                  rotate_left
                  ·intro w'
                   go_simp
                   with_reducible rfl
                  rotate_left
                  ·simp only [Act.put, List.setIfInBounds_toArray, List.set_cons_zero, List.set_cons_succ, i64_w, i32_w]
                   rfl
                  refine pure_ (i := 5) (N := some 48) (v := ?_) (a' := ?_) #[true, true, true, true, true, true, false, false, false, false, false, false, false, false, false, false] rfl rfl (any_of HT_.out (by kernel_rfl)) (fun _ _ _ h => h) (Or.inl ⟨by rfl, ?_⟩) ?_ ?_
                  rotate_left
                  ·intro w'
                   go_simp
                   with_reducible rfl
                  rotate_left
                  ·simp only [Act.put, List.setIfInBounds_toArray, List.set_cons_zero, List.set_cons_succ, i64_w, i32_w]
                   rfl
                  refine pure_ (i := 7) (N := some 50) (v := ?_) (a' := ?_) #[true, true, true, true, true, true, false, true, false, false, false, false, false, false, false, false] rfl rfl (any_of HT_.out (by kernel_rfl)) (fun _ _ _ h => h) (Or.inl ⟨by rfl, ?_⟩) ?_ ?_
                  rotate_left
                  ·intro w'
                   go_simp
                   with_reducible rfl
                  rotate_left
                  ·simp only [Act.put, List.setIfInBounds_toArray, List.set_cons_zero, List.set_cons_succ, i64_w, i32_w]
                   rfl
                  refine pure_ (i := 10) (N := some 53) (v := ?_) (a' := ?_) #[true, true, true, true, true, true, false, true, false, false, true, false, false, false, false, false] rfl rfl (any_of HT_.out (by kernel_rfl)) (fun _ _ _ h => h) (Or.inl ⟨by rfl, ?_⟩) ?_ ?_
                  rotate_left
                  ·intro w'
                   go_simp
                   with_reducible rfl
                  rotate_left
                  ·simp only [Act.put, List.setIfInBounds_toArray, List.set_cons_zero, List.set_cons_succ, i64_w, i32_w]
                   rfl
                  refine pure_ (i := 13) (N := some 56) (v := ?_) (a' := ?_) #[true, true, true, true, true, true, false, true, false, false, true, false, false, true, false, false] rfl rfl (any_of HT_.out (by kernel_rfl)) (fun _ _ _ h => h) (Or.inl ⟨by rfl, ?_⟩) ?_ ?_
                  rotate_left
                  ·intro w'
                   go_simp
                   with_reducible rfl
                  rotate_left
                  ·simp only [Act.put, List.setIfInBounds_toArray, List.set_cons_zero, List.set_cons_succ, i64_w, i32_w]
                   rfl
                  refine take_ (i := 6) (N := some 49) (v := ?_) (a' := ?_) #[true, true, true, true, true, true, true, true, false, false, true, false, false, true, false, false] rfl rfl (take_ofW HT_.out HW_.out (by kernel_rfl)) (fun _ _ _ h => h) (Or.inl ⟨by rfl, ?_⟩) hHeld ?_ ?_
                  rotate_left
                  ·rintro w' ⟨s0, s1, s2, s3, s4, s5, s6, s7, s8, s9⟩
                   go_simp
                   with_reducible rfl
                  rotate_left
                  ·simp only [Act.put, List.setIfInBounds_toArray, List.set_cons_zero, List.set_cons_succ, i64_w, i32_w]
                   rfl
                  refine take_ (i := 9) (N := some 52) (v := ?_) (a' := ?_) #[true, true, true, true, true, true, true, true, false, true, true, false, false, true, false, false] rfl rfl (take_ofW HT_.out HW_.out (by kernel_rfl)) (fun _ _ _ h => h) (Or.inl ⟨by rfl, ?_⟩) hHeld ?_ ?_
                  rotate_left
                  ·rintro w' ⟨s0, s1, s2, s3, s4, s5, s6, s7, s8, s9⟩
                   go_simp
                   with_reducible rfl
                  rotate_left
                  ·simp only [Act.put, List.setIfInBounds_toArray, List.set_cons_zero, List.set_cons_succ, i64_w, i32_w]
                   rfl
                  refine one_ (i := 8) (N := some 51) #[true, true, true, true, true, true, true, true, true, true, true, false, false, true, false, false] rfl rfl (one_of HT_.out (by kernel_rfl)) (by decide) (fun K hK => ?_)
                  refine goes_ Tryd.func27 (by kernel_rfl) rfl #[.agg #[.int .i64 ((rd_T42 l0 x29_2).f0), .string ((rd_T42 l0 x29_2).f1), .int .i64 ((rd_T42 l0 x29_2).f2), .int .i64 ((rd_T42 l0 x29_2).f3), .int .i64 ((rd_T42 l0 x29_2).f4)], .int .i64 a1] (by rfl) rfl rfl (zM) ?_
                  with_reducible refine (impl_Shade_faded.calls ((rd_T42 l0 x29_2).f0) ((rd_T42 l0 x29_2).f1) ((rd_T42 l0 x29_2).f2) ((rd_T42 l0 x29_2).f3) ((rd_T42 l0 x29_2).f4) a1 t321 t322 t323 t324 t325 _ A31.out).mono ?_
                  rintro e w57 ⟨rfl, hb⟩
                  refine ⟨_, rfl, ?_⟩
                  have n0_ := zA (Kd.S_below (by (with_reducible repeat (first | apply Kd.S_alloc | apply Kd.S_drewN | apply Kd.S_drew)); exact HO_8.out) hb); have n1_ := zL BK313 hb; have n2_ := zL BK319 hb; have n3_ := zA (below_step (zW2 HB GE313 GE319) hb); clear HO_8; clear BK313; clear BK319; clear HB; have HO_8 := n0_; have BK313 := n1_; have BK319 := n2_; have HB := n3_; clear n0_ n1_ n2_ n3_; (try clear hb); (try clear hb2); (try clear hk); (try clear hi)
                  refine hK.out _ _ ⟨(blk_cell BK313.out 0).trans rfl, (blk_cell BK313.out 1).trans rfl, (blk_cell BK313.out 2).trans rfl, (blk_cell BK313.out 3).trans rfl, (blk_cell BK313.out 4).trans rfl, (blk_cell BK319.out 0).trans rfl, (blk_cell BK319.out 1).trans rfl, (blk_cell BK319.out 2).trans rfl, (blk_cell BK319.out 3).trans rfl, (blk_cell BK319.out 4).trans rfl⟩ (fun hHeld => ?_)
                  clear hK K
                  refine norm_ (a' := ?_) ?_ ?_
                  rotate_left
                  ·show Act.put _ (some 51) _ = _
                   simp only [Act.put, List.setIfInBounds_toArray, List.set_cons_zero, List.set_cons_succ, i64_w, i32_w]
                   rfl
                  refine one_ (i := 11) (N := some 54) #[true, true, true, true, true, true, true, true, true, true, true, true, false, true, false, false] rfl rfl (one_of HT_.out (by kernel_rfl)) (by decide) (fun K hK => ?_)
                  refine goes_ Tryd.func27 (by kernel_rfl) rfl #[.agg #[.int .i64 ((rd_T42 y314 x39_3).f0), .string ((rd_T42 y314 x39_3).f1), .int .i64 ((rd_T42 y314 x39_3).f2), .int .i64 ((rd_T42 y314 x39_3).f3), .int .i64 ((rd_T42 y314 x39_3).f4)], .int .i64 a1] (by rfl) rfl rfl (zM) ?_
                  with_reducible refine (impl_Shade_faded.calls ((rd_T42 y314 x39_3).f0) ((rd_T42 y314 x39_3).f1) ((rd_T42 y314 x39_3).f2) ((rd_T42 y314 x39_3).f3) ((rd_T42 y314 x39_3).f4) a1 t326 t327 t328 t329 t330 _ A32.out).mono ?_
                  rintro e w58 ⟨rfl, hb⟩
                  refine ⟨_, rfl, ?_⟩
                  have n0_ := zA (Kd.S_below (by (with_reducible repeat (first | apply Kd.S_alloc | apply Kd.S_drewN | apply Kd.S_drew)); exact HO_8.out) hb); have n1_ := zL BK313 hb; have n2_ := zL BK319 hb; have n3_ := zA (below_step (zW2 HB GE313 GE319) hb); clear HO_8; clear BK313; clear BK319; clear HB; have HO_8 := n0_; have BK313 := n1_; have BK319 := n2_; have HB := n3_; clear n0_ n1_ n2_ n3_; (try clear hb); (try clear hb2); (try clear hk); (try clear hi)
                  refine hK.out _ _ ⟨(blk_cell BK313.out 0).trans rfl, (blk_cell BK313.out 1).trans rfl, (blk_cell BK313.out 2).trans rfl, (blk_cell BK313.out 3).trans rfl, (blk_cell BK313.out 4).trans rfl, (blk_cell BK319.out 0).trans rfl, (blk_cell BK319.out 1).trans rfl, (blk_cell BK319.out 2).trans rfl, (blk_cell BK319.out 3).trans rfl, (blk_cell BK319.out 4).trans rfl⟩ (fun hHeld => ?_)
                  clear hK K
                  refine norm_ (a' := ?_) ?_ ?_
                  rotate_left
                  ·show Act.put _ (some 54) _ = _
                   simp only [Act.put, List.setIfInBounds_toArray, List.set_cons_zero, List.set_cons_succ, i64_w, i32_w]
                   rfl
                  refine one_ (i := 12) (N := some 55) #[true, true, true, true, true, true, true, true, true, true, true, true, true, true, false, false] rfl rfl (one_of HT_.out (by kernel_rfl)) (by decide) (fun K hK => ?_)
                  refine goes_ Tryd.func26 (by kernel_rfl) rfl #[.agg #[.int .i64 t321, .string t322, .int .i64 t323, .int .i64 t324, .int .i64 t325], .agg #[.int .i64 t326, .string t327, .int .i64 t328, .int .i64 t329, .int .i64 t330]] (by rfl) rfl rfl (zM) ?_
                  with_reducible refine (impl_Shade_distance.calls t321 t322 t323 t324 t325 t326 t327 t328 t329 t330 t331 _ A33.out).mono ?_
                  rintro e w59 ⟨rfl, hb⟩
                  refine ⟨_, rfl, ?_⟩
                  have n0_ := zA (Kd.S_below (by (with_reducible repeat (first | apply Kd.S_alloc | apply Kd.S_drewN | apply Kd.S_drew)); exact HO_8.out) hb); have n1_ := zL BK313 hb; have n2_ := zL BK319 hb; have n3_ := zA (below_step (zW2 HB GE313 GE319) hb); clear HO_8; clear BK313; clear BK319; clear HB; have HO_8 := n0_; have BK313 := n1_; have BK319 := n2_; have HB := n3_; clear n0_ n1_ n2_ n3_; (try clear hb); (try clear hb2); (try clear hk); (try clear hi)
                  refine hK.out _ _ ⟨(blk_cell BK313.out 0).trans rfl, (blk_cell BK313.out 1).trans rfl, (blk_cell BK313.out 2).trans rfl, (blk_cell BK313.out 3).trans rfl, (blk_cell BK313.out 4).trans rfl, (blk_cell BK319.out 0).trans rfl, (blk_cell BK319.out 1).trans rfl, (blk_cell BK319.out 2).trans rfl, (blk_cell BK319.out 3).trans rfl, (blk_cell BK319.out 4).trans rfl⟩ (fun hHeld => ?_)
                  clear hK K
                  refine norm_ (a' := ?_) ?_ ?_
                  rotate_left
                  ·show Act.put _ (some 55) _ = _
                   simp only [Act.put, List.setIfInBounds_toArray, List.set_cons_zero, List.set_cons_succ, i64_w, i32_w]
                   rfl
                  refine pure_ (i := 14) (N := some 57) (v := ?_) (a' := ?_) #[true, true, true, true, true, true, true, true, true, true, true, true, true, true, true, false] rfl rfl (any_of HT_.out (by kernel_rfl)) (fun _ _ _ h => h) (Or.inl ⟨by rfl, ?_⟩) ?_ ?_
                  rotate_left
                  ·intro w'
                   go_simp
                   with_reducible rfl
                  rotate_left
                  ·simp only [Act.put, List.setIfInBounds_toArray, List.set_cons_zero, List.set_cons_succ, i64_w, i32_w]
                   rfl
                  refine pure_ (i := 15) (N := some 58) (v := ?_) (a' := ?_) #[true, true, true, true, true, true, true, true, true, true, true, true, true, true, true, true] rfl rfl (any_of HT_.out (by kernel_rfl)) (fun _ _ _ h => h) (Or.inl ⟨by rfl, ?_⟩) ?_ ?_
                  rotate_left
                  ·intro w'
                   go_simp
                   with_reducible rfl
                  rotate_left
                  ·simp only [Act.put, List.setIfInBounds_toArray, List.set_cons_zero, List.set_cons_succ, i64_w, i32_w]
                   rfl
                  refine done_ (done_of HT_.out (by kernel_rfl)) ?_
                  try go_wp2
                  go_roundg k3
                  case measure => have := HJ3.out; have := HK2.out; have := HK3.out; omega
                  case rel => exact ⟨(x8_3), (wrap64 (x39_3 + 1)), (by first | rfl | (simp; done) | (simp [*]; done)), H', ⟨by have := HJ3.out; have := HK2.out; have := HK3.out; omega⟩, ⟨by (with_reducible repeat (first | apply Kd.S_alloc | apply Kd.S_drewN | apply Kd.S_drew)); exact HO_8.out⟩, ⟨zB BK313⟩, ⟨by repeat (first | (with_reducible first | exact HB.out | apply below_alloc | apply pw_below_drewN | apply below_drew1 | refine below_set ?_ GE313.out | refine below_set ?_ GE319.out) | exact HB.out)⟩⟩
                ·rw [if_neg c30] at H
                 have c30b0 : decide (a2 ≤ t320) = false := decide_eq_false c30; clear c30; have H' := zA H; clear H; have p318 : 0 ≤ (x39_3 : Int) := of_decide_eq_true (by first | (with_reducible assumption) | assumption); have q318 : x39_3 < (y314.length : Int) := of_decide_eq_true (by first | (with_reducible assumption) | assumption)
                 obtain ⟨ad318, e318, hx318_0, hx318_1, hx318_2, hx318_3, hx318_4⟩ := at_T42 HR317.out x39_3 p318 q318
                 cases e318
                 replace hx318_0 := (HB.out.cell (World.block_lt_of_cell? w _ hx318_0)).trans hx318_0
                 replace hx318_1 := (HB.out.cell (World.block_lt_of_cell? w _ hx318_1)).trans hx318_1
                 replace hx318_2 := (HB.out.cell (World.block_lt_of_cell? w _ hx318_2)).trans hx318_2
                 replace hx318_3 := (HB.out.cell (World.block_lt_of_cell? w _ hx318_3)).trans hx318_3
                 replace hx318_4 := (HB.out.cell (World.block_lt_of_cell? w _ hx318_4)).trans hx318_4
                 replace p318 := eq_true p318
                 replace q318 := eq_true q318
                 try go_wp2_with (first | ((with_reducible refine gate_dst (N := 12) rfl ?_); refine box_event ?hg (N := 12) ?hd (cs := #[.int .i64 0, .string (⟨#[]⟩ : ByteArray), .int .i64 0, .int .i64 0, .int .i64 0]) (t := 42) ?hr ?_; (case hd => rfl); (case hg => rfl); (case hr => first | (go_simp; done) | (go_simp; rfl)); intro gb319 hg w60 hbox hb; have n0_ := zA (Kd.S_below (by (with_reducible repeat (first | apply Kd.S_alloc | apply Kd.S_drewN | apply Kd.S_drew)); exact HO_8.out) hb); have n1_ := zL BK313 hb; have n2_ := zA (below_step (zW1 HB GE313) hb); have n3_ := zA (hbox); have n4_ := zA ((by rw [hg]; exact (below_size (zW1 HB GE313)) : w.heap.size ≤ gb319)); have n5_ := zA ((by rw [hg]; exact (below_size (zW1 HB GE313)) : w.heap.size ≤ gb319)); have n6_ := zA ((by rw [hg]; exact Nat.ne_of_lt (zT BK313) : gb313 ≠ gb319)); have n7_ := zA ((by rw [hg]; exact Nat.ne_of_gt (zT BK313) : gb319 ≠ gb313)); clear HO_8; clear BK313; clear HB; have HO_8 := n0_; have BK313 := n1_; have HB := n2_; have BK319 := n3_; have GW319 := n4_; have GE319 := n5_; have NB313_319 := n6_; have NB319_313 := n7_; clear n0_ n1_ n2_ n3_ n4_ n5_ n6_ n7_; clear hb hbox hg; have hnb61 := NB319_313.out; have hnc61 := NB313_319.out; have hcz62_0 : w60.cell? ⟨gb319, 0, none⟩ = some (.int .i64 0) := (blk_cell BK319.out 0).trans rfl; have hcz62_1 : w60.cell? ⟨gb319, 1, none⟩ = some (.string (⟨#[]⟩ : ByteArray)) := (blk_cell BK319.out 1).trans rfl; have hcz62_2 : w60.cell? ⟨gb319, 2, none⟩ = some (.int .i64 0) := (blk_cell BK319.out 2).trans rfl; have hcz62_3 : w60.cell? ⟨gb319, 3, none⟩ = some (.int .i64 0) := (blk_cell BK319.out 3).trans rfl; have hcz62_4 : w60.cell? ⟨gb319, 4, none⟩ = some (.int .i64 0) := (blk_cell BK319.out 4).trans rfl; have hfz62_0 := blk_frozen BK319.out 0; have hfz62_1 := blk_frozen BK319.out 1; have hfz62_2 := blk_frozen BK319.out 2; have hfz62_3 := blk_frozen BK319.out 3; have hfz62_4 := blk_frozen BK319.out 4))
                 have n0_ : Aside0 (Kd.S (Kd.slice 3 (Kd.int .i64)) 45 (((((w60.setCell ⟨gb319, 0, none⟩ (.int .i64 ((rd_T42 y314 x39_3).f0))).setCell ⟨gb319, 1, none⟩ (.string ((rd_T42 y314 x39_3).f1))).setCell ⟨gb319, 2, none⟩ (.int .i64 ((rd_T42 y314 x39_3).f2))).setCell ⟨gb319, 3, none⟩ (.int .i64 ((rd_T42 y314 x39_3).f3))).setCell ⟨gb319, 4, none⟩ (.int .i64 ((rd_T42 y314 x39_3).f4))) w.heap.size (fun _ => True) u8 x8_3) := ⟨by (with_reducible repeat (first | apply Kd.S_alloc | apply Kd.S_drewN | apply Kd.S_drew)); exact Kd.S_mono (Kd.S_far (p := ⟨gb319, 4, none⟩) (Kd.S_far (p := ⟨gb319, 3, none⟩) (Kd.S_far (p := ⟨gb319, 2, none⟩) (Kd.S_far (p := ⟨gb319, 1, none⟩) (Kd.S_far (p := ⟨gb319, 0, none⟩) (Kd.S_types HO_8.out BK319.out (by decide)) (fun _ hk => hk.2) (.int .i64 ((rd_T42 y314 x39_3).f0))) (fun _ hk => hk.2) (.string ((rd_T42 y314 x39_3).f1))) (fun _ hk => hk.2) (.int .i64 ((rd_T42 y314 x39_3).f2))) (fun _ hk => hk.2) (.int .i64 ((rd_T42 y314 x39_3).f3))) (fun _ hk => hk.2) (.int .i64 ((rd_T42 y314 x39_3).f4))) (fun _ hk => trivial)⟩; have n1_ : Aside0 ((((((w60.setCell ⟨gb319, 0, none⟩ (.int .i64 ((rd_T42 y314 x39_3).f0))).setCell ⟨gb319, 1, none⟩ (.string ((rd_T42 y314 x39_3).f1))).setCell ⟨gb319, 2, none⟩ (.int .i64 ((rd_T42 y314 x39_3).f2))).setCell ⟨gb319, 3, none⟩ (.int .i64 ((rd_T42 y314 x39_3).f3))).setCell ⟨gb319, 4, none⟩ (.int .i64 ((rd_T42 y314 x39_3).f4))).heap[gb313]? = some (.cells #[.int .i64 ((rd_T42 l0 x29_2).f0), .string ((rd_T42 l0 x29_2).f1), .int .i64 ((rd_T42 l0 x29_2).f2), .int .i64 ((rd_T42 l0 x29_2).f3), .int .i64 ((rd_T42 l0 x29_2).f4)] 42 (0, 0))) := ⟨by (with_reducible repeat (first | refine blk_drewN ?_ _ | refine blk_drew ?_ | refine blk_alloc ?_ _)); refine blk_far ?_ NB313_319.out _; (with_reducible repeat (first | refine blk_drewN ?_ _ | refine blk_drew ?_ | refine blk_alloc ?_ _)); refine blk_far ?_ NB313_319.out _; (with_reducible repeat (first | refine blk_drewN ?_ _ | refine blk_drew ?_ | refine blk_alloc ?_ _)); refine blk_far ?_ NB313_319.out _; (with_reducible repeat (first | refine blk_drewN ?_ _ | refine blk_drew ?_ | refine blk_alloc ?_ _)); refine blk_far ?_ NB313_319.out _; (with_reducible repeat (first | refine blk_drewN ?_ _ | refine blk_drew ?_ | refine blk_alloc ?_ _)); refine blk_far ?_ NB313_319.out _; (with_reducible repeat (first | refine blk_drewN ?_ _ | refine blk_drew ?_ | refine blk_alloc ?_ _)); exact BK313.out⟩; have n2_ : Aside0 ((((((w60.setCell ⟨gb319, 0, none⟩ (.int .i64 ((rd_T42 y314 x39_3).f0))).setCell ⟨gb319, 1, none⟩ (.string ((rd_T42 y314 x39_3).f1))).setCell ⟨gb319, 2, none⟩ (.int .i64 ((rd_T42 y314 x39_3).f2))).setCell ⟨gb319, 3, none⟩ (.int .i64 ((rd_T42 y314 x39_3).f3))).setCell ⟨gb319, 4, none⟩ (.int .i64 ((rd_T42 y314 x39_3).f4))).heap[gb319]? = some (.cells #[.int .i64 ((rd_T42 y314 x39_3).f0), .string ((rd_T42 y314 x39_3).f1), .int .i64 ((rd_T42 y314 x39_3).f2), .int .i64 ((rd_T42 y314 x39_3).f3), .int .i64 ((rd_T42 y314 x39_3).f4)] 42 (0, 0))) := ⟨by (with_reducible repeat (first | refine blk_drewN ?_ _ | refine blk_drew ?_ | refine blk_alloc ?_ _)); refine blk_put (cs := #[.int .i64 ((rd_T42 y314 x39_3).f0), .string ((rd_T42 y314 x39_3).f1), .int .i64 ((rd_T42 y314 x39_3).f2), .int .i64 ((rd_T42 y314 x39_3).f3), .int .i64 0]) ?_ 4 _ rfl; (with_reducible repeat (first | refine blk_drewN ?_ _ | refine blk_drew ?_ | refine blk_alloc ?_ _)); refine blk_put (cs := #[.int .i64 ((rd_T42 y314 x39_3).f0), .string ((rd_T42 y314 x39_3).f1), .int .i64 ((rd_T42 y314 x39_3).f2), .int .i64 0, .int .i64 0]) ?_ 3 _ rfl; (with_reducible repeat (first | refine blk_drewN ?_ _ | refine blk_drew ?_ | refine blk_alloc ?_ _)); refine blk_put (cs := #[.int .i64 ((rd_T42 y314 x39_3).f0), .string ((rd_T42 y314 x39_3).f1), .int .i64 0, .int .i64 0, .int .i64 0]) ?_ 2 _ rfl; (with_reducible repeat (first | refine blk_drewN ?_ _ | refine blk_drew ?_ | refine blk_alloc ?_ _)); refine blk_put (cs := #[.int .i64 ((rd_T42 y314 x39_3).f0), .string (⟨#[]⟩ : ByteArray), .int .i64 0, .int .i64 0, .int .i64 0]) ?_ 1 _ rfl; (with_reducible repeat (first | refine blk_drewN ?_ _ | refine blk_drew ?_ | refine blk_alloc ?_ _)); refine blk_put (cs := #[.int .i64 0, .string (⟨#[]⟩ : ByteArray), .int .i64 0, .int .i64 0, .int .i64 0]) ?_ 0 _ rfl; (with_reducible repeat (first | refine blk_drewN ?_ _ | refine blk_drew ?_ | refine blk_alloc ?_ _)); exact BK319.out⟩; have n3_ : Aside0 (Below w.heap.size w (((((w60.setCell ⟨gb319, 0, none⟩ (.int .i64 ((rd_T42 y314 x39_3).f0))).setCell ⟨gb319, 1, none⟩ (.string ((rd_T42 y314 x39_3).f1))).setCell ⟨gb319, 2, none⟩ (.int .i64 ((rd_T42 y314 x39_3).f2))).setCell ⟨gb319, 3, none⟩ (.int .i64 ((rd_T42 y314 x39_3).f3))).setCell ⟨gb319, 4, none⟩ (.int .i64 ((rd_T42 y314 x39_3).f4)))) := ⟨by repeat (first | (with_reducible first | exact HB.out | apply below_alloc | apply pw_below_drewN | apply below_drew1 | refine below_set ?_ GE313.out | refine below_set ?_ GE319.out) | exact HB.out)⟩; (try clear HO_8); (try clear BK313); (try clear BK319); (try clear HB)
                 generalize (((((w60.setCell ⟨gb319, 0, none⟩ (.int .i64 ((rd_T42 y314 x39_3).f0))).setCell ⟨gb319, 1, none⟩ (.string ((rd_T42 y314 x39_3).f1))).setCell ⟨gb319, 2, none⟩ (.int .i64 ((rd_T42 y314 x39_3).f2))).setCell ⟨gb319, 3, none⟩ (.int .i64 ((rd_T42 y314 x39_3).f3))).setCell ⟨gb319, 4, none⟩ (.int .i64 ((rd_T42 y314 x39_3).f4))) = w63 at n0_ n1_ n2_ n3_ ⊢
                 have HO_8 := n0_; have BK313 := n1_; have BK319 := n2_; have HB := n3_; clear n0_ n1_ n2_ n3_; have n0_ := zA (Kd.S_drew HO_8.out); have n1_ := zA (blk_drew BK313.out); have n2_ := zA (blk_drew BK319.out); have n3_ := zA (below_drew1 HB.out); clear HO_8; clear BK313; clear BK319; clear HB; have HO_8 := n0_; have BK313 := n1_; have BK319 := n2_; have HB := n3_; clear n0_ n1_ n2_ n3_
                 refine start_ (n := 16) (S := fun w' => w'.cell? ⟨gb313, 0, none⟩ = some (.int .i64 ((rd_T42 l0 x29_2).f0)) ∧ w'.cell? ⟨gb313, 1, none⟩ = some (.string ((rd_T42 l0 x29_2).f1)) ∧ w'.cell? ⟨gb313, 2, none⟩ = some (.int .i64 ((rd_T42 l0 x29_2).f2)) ∧ w'.cell? ⟨gb313, 3, none⟩ = some (.int .i64 ((rd_T42 l0 x29_2).f3)) ∧ w'.cell? ⟨gb313, 4, none⟩ = some (.int .i64 ((rd_T42 l0 x29_2).f4)) ∧ w'.cell? ⟨gb319, 0, none⟩ = some (.int .i64 ((rd_T42 y314 x39_3).f0)) ∧ w'.cell? ⟨gb319, 1, none⟩ = some (.string ((rd_T42 y314 x39_3).f1)) ∧ w'.cell? ⟨gb319, 2, none⟩ = some (.int .i64 ((rd_T42 y314 x39_3).f2)) ∧ w'.cell? ⟨gb319, 3, none⟩ = some (.int .i64 ((rd_T42 y314 x39_3).f3)) ∧ w'.cell? ⟨gb319, 4, none⟩ = some (.int .i64 ((rd_T42 y314 x39_3).f4))) (ds := []) #[false, false, false, false, false, false, false, false, false, false, false, false, false, false, false, false] (by kernel_rfl) rfl rfl ⟨(blk_cell BK313.out 0).trans rfl, (blk_cell BK313.out 1).trans rfl, (blk_cell BK313.out 2).trans rfl, (blk_cell BK313.out 3).trans rfl, (blk_cell BK313.out 4).trans rfl, (blk_cell BK319.out 0).trans rfl, (blk_cell BK319.out 1).trans rfl, (blk_cell BK319.out 2).trans rfl, (blk_cell BK319.out 3).trans rfl, (blk_cell BK319.out 4).trans rfl⟩ (fun hHeld => ?_); refine with_tabW impl_FadedApart.tab10 impl_FadedApart.bits10 (fun HT_ HW_ => ?_)
                 generalize w63.drew = w64 at HO_8 BK313 BK319 HB hHeld ⊢
                 refine pure_ (i := 3) (N := some 46) (v := ?_) (a' := ?_) #[false, false, false, true, false, false, false, false, false, false, false, false, false, false, false, false] rfl rfl (any_of HT_.out (by kernel_rfl)) (fun _ _ _ h => h) (Or.inl ⟨by rfl, ?_⟩) ?_ ?_
                 rotate_left
                 ·intro w'
                  go_simp
                  with_reducible rfl
                 rotate_left
                 ·simp only [Act.put, List.setIfInBounds_toArray, List.set_cons_zero, List.set_cons_succ, i64_w, i32_w]
                  rfl
                 refine take_ (i := 0) (N := some 43) (v := ?_) (a' := ?_) #[true, false, false, true, false, false, false, false, false, false, false, false, false, false, false, false] rfl rfl (take_ofW HT_.out HW_.out (by kernel_rfl)) (fun _ _ _ h => h) (Or.inl ⟨by rfl, ?_⟩) hHeld ?_ ?_
                 rotate_left
                 ·rintro w' ⟨s0, s1, s2, s3, s4, s5, s6, s7, s8, s9⟩
                  go_simp
                  with_reducible rfl
                 rotate_left
                 ·simp only [Act.put, List.setIfInBounds_toArray, List.set_cons_zero, List.set_cons_succ, i64_w, i32_w]
                  rfl
                 refine take_ (i := 1) (N := some 44) (v := ?_) (a' := ?_) #[true, true, false, true, false, false, false, false, false, false, false, false, false, false, false, false] rfl rfl (take_ofW HT_.out HW_.out (by kernel_rfl)) (fun _ _ _ h => h) (Or.inl ⟨by rfl, ?_⟩) hHeld ?_ ?_
                 rotate_left
                 ·rintro w' ⟨s0, s1, s2, s3, s4, s5, s6, s7, s8, s9⟩
                  go_simp
                  with_reducible rfl
                 rotate_left
                 ·simp only [Act.put, List.setIfInBounds_toArray, List.set_cons_zero, List.set_cons_succ, i64_w, i32_w]
                  rfl
                 refine one_ (i := 2) (N := some 45) #[true, true, true, true, false, false, false, false, false, false, false, false, false, false, false, false] rfl rfl (one_of HT_.out (by kernel_rfl)) (by decide) (fun K hK => ?_)
                 refine goes_ Tryd.func26 (by kernel_rfl) rfl #[.agg #[.int .i64 ((rd_T42 l0 x29_2).f0), .string ((rd_T42 l0 x29_2).f1), .int .i64 ((rd_T42 l0 x29_2).f2), .int .i64 ((rd_T42 l0 x29_2).f3), .int .i64 ((rd_T42 l0 x29_2).f4)], .agg #[.int .i64 ((rd_T42 y314 x39_3).f0), .string ((rd_T42 y314 x39_3).f1), .int .i64 ((rd_T42 y314 x39_3).f2), .int .i64 ((rd_T42 y314 x39_3).f3), .int .i64 ((rd_T42 y314 x39_3).f4)]] (by rfl) rfl rfl (zM) ?_
                 with_reducible refine (impl_Shade_distance.calls ((rd_T42 l0 x29_2).f0) ((rd_T42 l0 x29_2).f1) ((rd_T42 l0 x29_2).f2) ((rd_T42 l0 x29_2).f3) ((rd_T42 l0 x29_2).f4) ((rd_T42 y314 x39_3).f0) ((rd_T42 y314 x39_3).f1) ((rd_T42 y314 x39_3).f2) ((rd_T42 y314 x39_3).f3) ((rd_T42 y314 x39_3).f4) t320 _ A29.out).mono ?_
                 rintro e w65 ⟨rfl, hb⟩
                 refine ⟨_, rfl, ?_⟩
                 have n0_ := zA (Kd.S_below (by (with_reducible repeat (first | apply Kd.S_alloc | apply Kd.S_drewN | apply Kd.S_drew)); exact HO_8.out) hb); have n1_ := zL BK313 hb; have n2_ := zL BK319 hb; have n3_ := zA (below_step (zW2 HB GE313 GE319) hb); clear HO_8; clear BK313; clear BK319; clear HB; have HO_8 := n0_; have BK313 := n1_; have BK319 := n2_; have HB := n3_; clear n0_ n1_ n2_ n3_; (try clear hb); (try clear hb2); (try clear hk); (try clear hi)
                 refine hK.out _ _ ⟨(blk_cell BK313.out 0).trans rfl, (blk_cell BK313.out 1).trans rfl, (blk_cell BK313.out 2).trans rfl, (blk_cell BK313.out 3).trans rfl, (blk_cell BK313.out 4).trans rfl, (blk_cell BK319.out 0).trans rfl, (blk_cell BK319.out 1).trans rfl, (blk_cell BK319.out 2).trans rfl, (blk_cell BK319.out 3).trans rfl, (blk_cell BK319.out 4).trans rfl⟩ (fun hHeld => ?_)
                 clear hK K
                 refine norm_ (a' := ?_) ?_ ?_
                 rotate_left
                 ·show Act.put _ (some 45) _ = _
                  simp only [Act.put, List.setIfInBounds_toArray, List.set_cons_zero, List.set_cons_succ, i64_w, i32_w]
                  rfl
                 refine pure_ (i := 4) (N := some 47) (v := ?_) (a' := ?_) #[true, true, true, true, true, false, false, false, false, false, false, false, false, false, false, false] rfl rfl (any_of HT_.out (by kernel_rfl)) (fun _ _ _ h => h) (Or.inl ⟨by rfl, ?_⟩) ?_ ?_
                 rotate_left
                 ·intro w'
                  go_simp
                  with_reducible rfl
                 rotate_left
                 ·simp only [Act.put, List.setIfInBounds_toArray, List.set_cons_zero, List.set_cons_succ, i64_w, i32_w]
                  rfl
                 refine pure_ (i := 5) (N := some 48) (v := ?_) (a' := ?_) #[true, true, true, true, true, true, false, false, false, false, false, false, false, false, false, false] rfl rfl (any_of HT_.out (by kernel_rfl)) (fun _ _ _ h => h) (Or.inl ⟨by rfl, ?_⟩) ?_ ?_
                 rotate_left
                 ·intro w'
                  go_simp
                  with_reducible rfl
                 rotate_left
                 ·simp only [Act.put, List.setIfInBounds_toArray, List.set_cons_zero, List.set_cons_succ, i64_w, i32_w]
                  rfl
                 refine pure_ (i := 6) (N := some 49) (v := undef) (a' := ?_) #[true, true, true, true, true, true, true, false, false, false, false, false, false, false, false, false] rfl rfl (any_of HT_.out (by kernel_rfl)) (fun _ _ _ h => h) (Or.inr ⟨by rfl, rfl⟩) ?_ ?_
                 rotate_left
                 ·simp only [Act.put, List.setIfInBounds_toArray, List.set_cons_zero, List.set_cons_succ, i64_w, i32_w]
                  rfl
                 refine pure_ (i := 7) (N := some 50) (v := undef) (a' := ?_) #[true, true, true, true, true, true, true, true, false, false, false, false, false, false, false, false] rfl rfl (any_of HT_.out (by kernel_rfl)) (fun _ _ _ h => h) (Or.inr ⟨by rfl, rfl⟩) ?_ ?_
                 rotate_left
                 ·simp only [Act.put, List.setIfInBounds_toArray, List.set_cons_zero, List.set_cons_succ, i64_w, i32_w]
                  rfl
                 refine pure_ (i := 8) (N := some 51) (v := undef) (a' := ?_) #[true, true, true, true, true, true, true, true, true, false, false, false, false, false, false, false] rfl rfl (any_of HT_.out (by kernel_rfl)) (fun _ _ _ h => h) (Or.inr ⟨by rfl, rfl⟩) ?_ ?_
                 rotate_left
                 ·simp only [Act.put, List.setIfInBounds_toArray, List.set_cons_zero, List.set_cons_succ, i64_w, i32_w]
                  rfl
                 refine pure_ (i := 9) (N := some 52) (v := undef) (a' := ?_) #[true, true, true, true, true, true, true, true, true, true, false, false, false, false, false, false] rfl rfl (any_of HT_.out (by kernel_rfl)) (fun _ _ _ h => h) (Or.inr ⟨by rfl, rfl⟩) ?_ ?_
                 rotate_left
                 ·simp only [Act.put, List.setIfInBounds_toArray, List.set_cons_zero, List.set_cons_succ, i64_w, i32_w]
                  rfl
                 refine pure_ (i := 10) (N := some 53) (v := undef) (a' := ?_) #[true, true, true, true, true, true, true, true, true, true, true, false, false, false, false, false] rfl rfl (any_of HT_.out (by kernel_rfl)) (fun _ _ _ h => h) (Or.inr ⟨by rfl, rfl⟩) ?_ ?_
                 rotate_left
                 ·simp only [Act.put, List.setIfInBounds_toArray, List.set_cons_zero, List.set_cons_succ, i64_w, i32_w]
                  rfl
                 refine pure_ (i := 11) (N := some 54) (v := undef) (a' := ?_) #[true, true, true, true, true, true, true, true, true, true, true, true, false, false, false, false] rfl rfl (any_of HT_.out (by kernel_rfl)) (fun _ _ _ h => h) (Or.inr ⟨by rfl, rfl⟩) ?_ ?_
                 rotate_left
                 ·simp only [Act.put, List.setIfInBounds_toArray, List.set_cons_zero, List.set_cons_succ, i64_w, i32_w]
                  rfl
                 refine pure_ (i := 12) (N := some 55) (v := undef) (a' := ?_) #[true, true, true, true, true, true, true, true, true, true, true, true, true, false, false, false] rfl rfl (any_of HT_.out (by kernel_rfl)) (fun _ _ _ h => h) (Or.inr ⟨by rfl, rfl⟩) ?_ ?_
                 rotate_left
                 ·simp only [Act.put, List.setIfInBounds_toArray, List.set_cons_zero, List.set_cons_succ, i64_w, i32_w]
                  rfl
                 refine pure_ (i := 13) (N := some 56) (v := undef) (a' := ?_) #[true, true, true, true, true, true, true, true, true, true, true, true, true, true, false, false] rfl rfl (any_of HT_.out (by kernel_rfl)) (fun _ _ _ h => h) (Or.inr ⟨by rfl, rfl⟩) ?_ ?_
                 rotate_left
                 ·simp only [Act.put, List.setIfInBounds_toArray, List.set_cons_zero, List.set_cons_succ, i64_w, i32_w]
                  rfl
                 refine pure_ (i := 14) (N := some 57) (v := undef) (a' := ?_) #[true, true, true, true, true, true, true, true, true, true, true, true, true, true, true, false] rfl rfl (any_of HT_.out (by kernel_rfl)) (fun _ _ _ h => h) (Or.inr ⟨by rfl, rfl⟩) ?_ ?_
                 rotate_left
                 ·simp only [Act.put, List.setIfInBounds_toArray, List.set_cons_zero, List.set_cons_succ, i64_w, i32_w]
                  rfl
                 refine pure_ (i := 15) (N := some 58) (v := ?_) (a' := ?_) #[true, true, true, true, true, true, true, true, true, true, true, true, true, true, true, true] rfl rfl (any_of HT_.out (by kernel_rfl)) (fun _ _ _ h => h) (Or.inl ⟨by rfl, ?_⟩) ?_ ?_
                 rotate_left
                 ·intro w'
                  go_simp
                  with_reducible rfl
                 rotate_left
                 ·simp only [Act.put, List.setIfInBounds_toArray, List.set_cons_zero, List.set_cons_succ, i64_w, i32_w]
                  rfl
                 refine done_ (done_of HT_.out (by kernel_rfl)) ?_
                 try go_wp2
                 go_roundg k3
                 case measure => have := HJ3.out; have := HK2.out; have := HK3.out; omega
                 case rel => exact ⟨(x8_3), (wrap64 (x39_3 + 1)), (by first | rfl | (simp; done) | (simp [*]; done)), H', ⟨by have := HJ3.out; have := HK2.out; have := HK3.out; omega⟩, ⟨by (with_reducible repeat (first | apply Kd.S_alloc | apply Kd.S_drewN | apply Kd.S_drew)); exact HO_8.out⟩, ⟨zB BK313⟩, ⟨by repeat (first | (with_reducible first | exact HB.out | apply below_alloc | apply pw_below_drewN | apply below_drew1 | refine below_set ?_ GE313.out | refine below_set ?_ GE319.out) | exact HB.out)⟩⟩
               ·rw [if_neg c28] at H
                exact absurd H (by simp)
              ·rw [if_neg c27] at H
               exact absurd H (by simp)
             ·rw [if_neg c26] at H
              have c26b0 : decide (x39_3 < (y314.length : Int)) = false := decide_eq_false c26; clear c26; have H' := zA H; clear H
              go_wp2
              go_roundg k3
              case measure => have := HJ3.out; have := HK2.out; have := HK3.out; omega
              case rel => exact ⟨(x8_3), (wrap64 (x29_2 + 1)), (by first | rfl | (simp; done) | (simp [*]; done)), H', ⟨by have := HJ3.out; have := HK2.out; have := HK3.out; omega⟩, ⟨by (with_reducible repeat (first | apply Kd.S_alloc | apply Kd.S_drewN | apply Kd.S_drew)); exact HO_8.out⟩, ⟨by repeat (first | (with_reducible first | exact HB.out | apply below_alloc | apply pw_below_drewN | apply below_drew1 | refine below_set ?_ GE313.out) | exact HB.out)⟩⟩
          ·rw [if_neg c21] at H
           exact absurd H (by simp)
         ·rw [if_neg c20] at H
          exact absurd H (by simp)
        ·rw [if_neg c18] at H
         exact absurd H (by simp)
       ·rw [if_neg c17] at H
        exact absurd H (by simp)
      ·rw [if_neg c16] at H
       have c16b0 : decide (x29_2 < (l0.length : Int)) = false := decide_eq_false c16; clear c16
       simp only [Option.some.injEq, Prod.mk.injEq] at H
       obtain ⟨rfl, rfl⟩ := H
       go_wp2
       go_ret2
       exact ⟨_, by first | rfl | (simp [errW_none, errW_some] <;> rfl) | (simp [*, errW_none, errW_some] <;> rfl), by (with_reducible repeat (first | apply Kd.S_alloc | apply Kd.S_drewN | apply Kd.S_drew)); exact HO_8.out, by repeat (first | (with_reducible first | exact HB.out | apply below_alloc | apply pw_below_drewN | apply below_drew1) | exact HB.out)⟩

end Go.Proofs.YtggikmajopmchaaDoor.G
