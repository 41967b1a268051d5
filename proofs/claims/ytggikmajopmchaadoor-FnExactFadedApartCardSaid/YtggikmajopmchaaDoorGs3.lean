-- Printed by a program of this session (wip/tools/gp.sh); Lean checks it.
import Derived.Test.YtggikmajopmchaaDoorGx0
import Derived.Test.YtggikmajopmchaaDoorGz
import Derived.Test.YtggikmajopmchaaDoorGx2
import Derived.Test.YtggikmajopmchaaDoorGx7
import Derived.Test.YtggikmajopmchaaDoorGx9
import Derived.Test.YtggikmajopmchaaDoorGx10
import Derived.Test.YtggikmajopmchaaDoorGx17
namespace Go.Proofs.YtggikmajopmchaaDoor.G
open Go.RowKit Go.Proofs.YtggikmajopmchaaDoorW.PrintWords Go.Proofs.YtggikmajopmchaaDoorW.PrintLast Go.Proofs.YtggikmajopmchaaDoorW.PrintMore
attribute [local go_sem] isSome_setCell_ max2_int min2_int max_two min_two max_three min_three max_four min_four   -- for this text's walks alone
set_option linter.unusedVariables false
set_option linter.unusedSimpArgs false

theorem zN {a b p : Prop} (h : a) (g : b) (f : a → b → p := by intro h_ g_; first | exact Nat.ne_of_lt (Nat.lt_of_lt_of_le (by first | rwa [add_block] at h_ | exact h_) g_) | (rw [add_block]; exact Nat.ne_of_lt (Nat.lt_of_lt_of_le (by first | rwa [add_block] at h_ | exact h_) g_)) | (show (Addr.add _ _).block ≠ _; rw [add_block]; exact Nat.ne_of_lt (Nat.lt_of_lt_of_le (by first | rwa [add_block] at h_ | exact h_) g_)) | (dsimp only; exact Nat.ne_of_lt (Nat.lt_of_lt_of_le (by first | rwa [add_block] at h_ | exact h_) g_))) : p := f h g
/-! ### spec_FadedApart: function 6 -/
mutual
def spec_FadedApart.j0 : Nat → List (S42) → Int → Int → List (List Int) → Bool → Option ((List (List Int)) × Bool)
 | 0, _, _, _, _, _ => none
 | k + 1, x0, x1, x2, x8, x26 => if x26 = true then (some (x8, false)) else (spec_FadedApart.l0 k x0 x1 x2 x8 0)
def spec_FadedApart.l0 : Nat → List (S42) → Int → Int → List (List Int) → Int → Option ((List (List Int)) × Bool)
 | 0, _, _, _, _, _ => none
 | k + 1, x0, x1, x2, x8, x9 => if x9 < (x0.length : Int) then (spec_FadedApart.l1 k x0 x1 x2 x8 x9 (wrap64 (x9 + 1))) else (some (x8, true))
def spec_FadedApart.l1 : Nat → List (S42) → Int → Int → List (List Int) → Int → Int → Option ((List (List Int)) × Bool)
 | 0, _, _, _, _, _, _ => none
 | k + 1, x0, x1, x2, x8, x9, x10 => if x10 < (x0.length : Int) then (if 0 ≤ x9 then (if x9 < (x0.length : Int) then ((spec_l3Faded.f ((rd_T42 x0 x9).f0) ((rd_T42 x0 x9).f1) ((rd_T42 x0 x9).f2) ((rd_T42 x0 x9).f3) ((rd_T42 x0 x9).f4) x1).bind fun bt276 => (if 0 ≤ x10 then ((spec_l3Faded.f ((rd_T42 x0 x10).f0) ((rd_T42 x0 x10).f1) ((rd_T42 x0 x10).f2) ((rd_T42 x0 x10).f3) ((rd_T42 x0 x10).f4) x1).bind fun bt282 => ((spec_l3Far.f ((rd_T42 x0 x9).f0) ((rd_T42 x0 x9).f1) ((rd_T42 x0 x9).f2) ((rd_T42 x0 x9).f3) ((rd_T42 x0 x9).f4) ((rd_T42 x0 x10).f2) ((rd_T42 x0 x10).f3)).bind fun t292 => (if t292 ≥ x2 then ((spec_l3Far.f bt276.1 bt276.2.1 bt276.2.2.1 bt276.2.2.2.1 bt276.2.2.2.2 bt282.2.2.1 bt282.2.2.2.1).bind fun t293 => (if t293 < x2 then (if x8.length < 5864062014805 then (spec_FadedApart.l1 k x0 x1 x2 (x8 ++ [(([bt276.1, bt282.1] : List Int))]) x9 (wrap64 (x10 + 1))) else (none)) else (spec_FadedApart.l1 k x0 x1 x2 x8 x9 (wrap64 (x10 + 1))))) else (spec_FadedApart.l1 k x0 x1 x2 x8 x9 (wrap64 (x10 + 1)))))) else (none))) else (none)) else (none)) else (spec_FadedApart.l0 k x0 x1 x2 x8 (wrap64 (x9 + 1)))
end
def spec_FadedApart.f (k : Nat) (l0 : List (S42)) (a1 : Int) (a2 : Int) : Option ((List (List Int)) × Bool) := (some (([] : List (List Int)) : List (List Int))).bind fun y269 => ((spec_l3Good.f k l0).bind fun t272 => (if t272 = true then ((spec_l3Years.f a1).bind fun t273 => (if t273 = true then ((spec_l1In.f a2 0 33).bind fun t274 => (spec_FadedApart.j0 k l0 a1 a2 y269 (!t274))) else (spec_FadedApart.j0 k l0 a1 a2 y269 true))) else (spec_FadedApart.j0 k l0 a1 a2 y269 true)))
theorem spec_FadedApart.mono_l : ∀ k, (∀ y0 y1 y2 y3 y4, LeO (spec_FadedApart.j0 k y0 y1 y2 y3 y4) (spec_FadedApart.j0 (k + 1) y0 y1 y2 y3 y4)) ∧ (∀ y0 y1 y2 y3 y4, LeO (spec_FadedApart.l0 k y0 y1 y2 y3 y4) (spec_FadedApart.l0 (k + 1) y0 y1 y2 y3 y4)) ∧ (∀ y0 y1 y2 y3 y4 y5, LeO (spec_FadedApart.l1 k y0 y1 y2 y3 y4 y5) (spec_FadedApart.l1 (k + 1) y0 y1 y2 y3 y4 y5))
 | 0 => ⟨fun _ _ _ _ _ r h => by simp [spec_FadedApart.j0] at h, fun _ _ _ _ _ r h => by simp [spec_FadedApart.l0] at h, fun _ _ _ _ _ _ r h => by simp [spec_FadedApart.l1] at h⟩
 | k + 1 => by
  obtain ⟨ih0, ih1, ih2⟩ := spec_FadedApart.mono_l k
  refine ⟨?_, ?_, ?_⟩
  ·intro y0 y1 y2 y3 y4
   unfold spec_FadedApart.j0
   repeat' first
   | (with_reducible exact ih0 _ _ _ _ _)
   | (with_reducible exact ih1 _ _ _ _ _)
   | (with_reducible exact ih2 _ _ _ _ _ _)
   | (with_reducible exact spec_l3Good.mono _ _)
   | (with_reducible exact LeO.refl _)
   | (with_reducible exact LeO.none _)
   | (with_reducible refine LeO.ite ?_ ?_)
   | (with_reducible refine LeO.bind ?_ (fun _ => ?_))
   | exact ih0 _ _ _ _ _
   | exact ih1 _ _ _ _ _
   | exact ih2 _ _ _ _ _ _
   | exact spec_l3Good.mono _ _
   | exact LeO.none _
   | refine LeO.ite ?_ ?_
   | refine LeO.bind ?_ (fun _ => ?_)
  ·intro y0 y1 y2 y3 y4
   unfold spec_FadedApart.l0
   repeat' first
   | (with_reducible exact ih0 _ _ _ _ _)
   | (with_reducible exact ih1 _ _ _ _ _)
   | (with_reducible exact ih2 _ _ _ _ _ _)
   | (with_reducible exact spec_l3Good.mono _ _)
   | (with_reducible exact LeO.refl _)
   | (with_reducible exact LeO.none _)
   | (with_reducible refine LeO.ite ?_ ?_)
   | (with_reducible refine LeO.bind ?_ (fun _ => ?_))
   | exact ih0 _ _ _ _ _
   | exact ih1 _ _ _ _ _
   | exact ih2 _ _ _ _ _ _
   | exact spec_l3Good.mono _ _
   | exact LeO.none _
   | refine LeO.ite ?_ ?_
   | refine LeO.bind ?_ (fun _ => ?_)
  ·intro y0 y1 y2 y3 y4 y5
   unfold spec_FadedApart.l1
   repeat' first
   | (with_reducible exact ih0 _ _ _ _ _)
   | (with_reducible exact ih1 _ _ _ _ _)
   | (with_reducible exact ih2 _ _ _ _ _ _)
   | (with_reducible exact spec_l3Good.mono _ _)
   | (with_reducible exact LeO.refl _)
   | (with_reducible exact LeO.none _)
   | (with_reducible refine LeO.ite ?_ ?_)
   | (with_reducible refine LeO.bind ?_ (fun _ => ?_))
   | exact ih0 _ _ _ _ _
   | exact ih1 _ _ _ _ _
   | exact ih2 _ _ _ _ _ _
   | exact spec_l3Good.mono _ _
   | exact LeO.none _
   | refine LeO.ite ?_ ?_
   | refine LeO.bind ?_ (fun _ => ?_)
theorem spec_FadedApart.mono : ∀ a0 a1 a2 k, LeO (spec_FadedApart.f k a0 a1 a2) (spec_FadedApart.f (k + 1) a0 a1 a2) := by
 intro a0 a1 a2 k
 obtain ⟨ih0, ih1, ih2⟩ := spec_FadedApart.mono_l k
 unfold spec_FadedApart.f
 repeat' first
   | (with_reducible exact ih0 _ _ _ _ _)
   | (with_reducible exact ih1 _ _ _ _ _)
   | (with_reducible exact ih2 _ _ _ _ _ _)
   | (with_reducible exact spec_l3Good.mono _ _)
   | (with_reducible exact LeO.refl _)
   | (with_reducible exact LeO.none _)
   | (with_reducible refine LeO.ite ?_ ?_)
   | (with_reducible refine LeO.bind ?_ (fun _ => ?_))
   | exact ih0 _ _ _ _ _
   | exact ih1 _ _ _ _ _
   | exact ih2 _ _ _ _ _ _
   | exact spec_l3Good.mono _ _
   | exact LeO.none _
   | refine LeO.ite ?_ ?_
   | refine LeO.bind ?_ (fun _ => ?_)
def spec_FadedApart.T10 : Bool × List (List Nat × List Nat) := (true, [([], []), ([], []), ([0, 1], [0, 1]), ([2], [2]), ([], []), ([3, 4], [3, 4]), ([], []), ([], []), ([6, 7], [6, 7]), ([8], [8]), ([], []), ([9, 10, 5], [9, 10]), ([], []), ([], []), ([12, 5, 11, 0, 1, 2, 3, 4, 5, 12, 13], [5, 12]), ([13, 11, 14, 0, 1, 2, 3, 4, 5, 6, 7, 8, 9, 10, 11, 12, 13, 14], [11, 13])])
def spec_FadedApart.B10 : List Nat := [0, 0, 3, 7, 0, 31, 0, 0, 192, 448, 0, 2047, 0, 0, 16383, 32767]
theorem spec_FadedApart.tab10 : rtab .any (opsOf Tryd.f6 10) = spec_FadedApart.T10 := by kernel_rfl
theorem spec_FadedApart.bits10 : waitsOk spec_FadedApart.T10.2 spec_FadedApart.B10 = true := by kernel_rfl
def spec_FadedApart.T11 : Bool × List (List Nat × List Nat) := (true, [([], []), ([], []), ([0, 1], [0, 1]), ([2], [2]), ([], []), ([], []), ([4, 5], [4, 5]), ([6], [6]), ([7], [7]), ([], []), ([], []), ([9, 10], [9, 10]), ([11], [11]), ([12], [12]), ([3, 8, 13], [3, 8, 13]), ([], []), ([14, 15], [14, 15]), ([16, 14], [16]), ([17], [17]), ([17], [17]), ([19, 17], [17, 19]), ([17], [17]), ([21, 17], [17, 21]), ([18, 20, 22, 17, 17], [17, 18, 20, 22]), ([17], [17]), ([23, 24, 17], [17, 23, 24]), ([17, 25], [17, 25])])
def spec_FadedApart.B11 : List Nat := [0, 0, 3, 7, 0, 0, 48, 112, 240, 0, 0, 1536, 3584, 7680, 16383, 0, 65535, 131071, 262143, 262143, 786431, 262143, 2359295, 8388607, 262143, 33554431, 67108863]
theorem spec_FadedApart.tab11 : rtab .any (opsOf Tryd.f6 11) = spec_FadedApart.T11 := by kernel_rfl
theorem spec_FadedApart.bits11 : waitsOk spec_FadedApart.T11.2 spec_FadedApart.B11 = true := by kernel_rfl
set_option maxHeartbeats 8000000 in
set_option maxRecDepth 100000 in
theorem spec_FadedApart.calls (k : Nat) (A0 : Option Addr) (c0 : Nat) (l0 : List (S42)) (a1 : Int) (a2 : Int) (r1 : List (List Int)) (r2 : Bool) (w : World) (hr0 : Kd.C k42 w A0 l0.length l0) (hc0 : l0.length ≤ c0) (h : spec_FadedApart.f k l0 a1 a2 = some (r1, r2)) :
  Calls Tryd.prog 6 #[.slice A0 l0.length c0, .int .i64 a1, .int .i64 a2] w fun e w' => ∃ v0_ : Value, e = .returned (.tuple #[v0_, .bool r2]) ∧ Kd.S (Kd.slice 3 (Kd.int .i64)) 45 w' w.heap.size (fun _ => True) v0_ r1 ∧ Below w.heap.size w w' := by
 have hu42 := Tryd.underlying42; have HR0 := zA hr0; have HC0 := zA hc0; clear hr0 hc0; have HB := zA (Below.refl w.heap.size w); have H : ((some (([] : List (List Int)) : List (List Int))).bind fun y269 => ((spec_l3Good.f k l0).bind fun t272 => (if t272 = true then ((spec_l3Years.f a1).bind fun t273 => (if t273 = true then ((spec_l1In.f a2 0 33).bind fun t274 => (spec_FadedApart.j0 k l0 a1 a2 y269 (!t274))) else (spec_FadedApart.j0 k l0 a1 a2 y269 true))) else (spec_FadedApart.j0 k l0 a1 a2 y269 true)))) = some (r1, r2) := h; clear h
 obtain ⟨y269, hy269⟩ : ∃ y_ : List (List Int), y_ = (([] : List (List Int))) := ⟨_, rfl⟩
 replace H : ((spec_l3Good.f k l0).bind fun t272 => (if t272 = true then ((spec_l3Years.f a1).bind fun t273 => (if t273 = true then ((spec_l1In.f a2 0 33).bind fun t274 => (spec_FadedApart.j0 k l0 a1 a2 y269 (!t274))) else (spec_FadedApart.j0 k l0 a1 a2 y269 true))) else (spec_FadedApart.j0 k l0 a1 a2 y269 true))) = some (r1, r2) := by first | (rw [hy269]; with_reducible exact H) | (have H2_ := (Option.bind_some _ _).symm.trans H; rw [hy269]; with_reducible exact H2_) | (have H2_ := (Option.bind_some _ _).symm.trans H; with_reducible exact H2_) | with_reducible exact H | (rw [hy269]; exact H) | exact H
 have Ny269 := zA hy269; clear hy269; have HC4 := zA H; clear H
 go_enter Tryd.func6, Tryd.ntmps6
 go_upto_region 2 with (first | ((with_reducible refine gate_dst (N := 13) rfl ?_); refine Kd.S_lit (Kd.slice 3 (Kd.int .i64)) _ 45 ?hg (N := 13) ?hd (xs := ([] : List (List Int))) (inner := []) (ok := fun _ => True) (okp := fun _ => True) ?hr ?hp (fun _ hk => hk) trivial (Below.refl _ _) (Nat.le_refl _) (by simp) ?_; (case hd => rfl); (case hg => rfl); (case hr => first | (go_simp; done) | (go_simp; rfl)); (case hp => exact (Reps.none _ _)); intro v270 w5 ho6 hb hg_ hnew_; clear hg_ hnew_; (first | rw [← Ny269.out] at ho6 | (simp only [Int.reduceToNat] at ho6; rw [← Ny269.out] at ho6)); have n0_ := zA (Kd.S_lower ho6 (below_size (zW HB))); have n1_ := zA (below_step (zW HB) hb); clear HB; have HO271 := n0_; have HB := n1_; clear n0_ n1_; clear hb ho6))
 (try simp only [Act.put, List.setIfInBounds_toArray, List.set_cons_zero, List.set_cons_succ])
 go_cut [26] (fun v26 wc => ∃ (kq : Nat) (x26_3 : Bool), v26 = .bool x26_3 ∧ Aside0 (spec_FadedApart.j0 kq l0 a1 a2 y269 x26_3 = some (r1, r2)) ∧ Aside0 (kq ≤ k) ∧ Aside0 (Kd.S (Kd.slice 3 (Kd.int .i64)) 45 wc w.heap.size (fun _ => True) v270 y269) ∧ Aside0 (Below w.heap.size w wc))
 case first =>
  have H := HC4.out; clear HC4
  replace H := Option.bind_eq_some_iff.mp H
  obtain ⟨t272, A70, H⟩ := H
  replace H : (if t272 = true then ((spec_l3Years.f a1).bind fun t273 => (if t273 = true then ((spec_l1In.f a2 0 33).bind fun t274 => (spec_FadedApart.j0 k l0 a1 a2 y269 (!t274))) else (spec_FadedApart.j0 k l0 a1 a2 y269 true))) else (spec_FadedApart.j0 k l0 a1 a2 y269 true)) = some (r1, r2) := H
  have A7 := zA A70; clear A70
  by_cases c8 : t272 = true
  ·subst c8
   have H1 : ((spec_l3Years.f a1).bind fun t273 => (if t273 = true then ((spec_l1In.f a2 0 33).bind fun t274 => (spec_FadedApart.j0 k l0 a1 a2 y269 (!t274))) else (spec_FadedApart.j0 k l0 a1 a2 y269 true))) = some (r1, r2) := by rw [if_pos rfl] at H; exact H
   clear H; have H := H1; clear H1
   replace H := Option.bind_eq_some_iff.mp H
   obtain ⟨t273, A90, H⟩ := H
   replace H : (if t273 = true then ((spec_l1In.f a2 0 33).bind fun t274 => (spec_FadedApart.j0 k l0 a1 a2 y269 (!t274))) else (spec_FadedApart.j0 k l0 a1 a2 y269 true)) = some (r1, r2) := H
   have A9 := zA A90; clear A90
   by_cases c10 : t273 = true
   ·subst c10
    have H1 : ((spec_l1In.f a2 0 33).bind fun t274 => (spec_FadedApart.j0 k l0 a1 a2 y269 (!t274))) = some (r1, r2) := by rw [if_pos rfl] at H; exact H
    clear H; have H := H1; clear H1
    replace H := Option.bind_eq_some_iff.mp H
    obtain ⟨t274, A110, H⟩ := H
    replace H : (spec_FadedApart.j0 k l0 a1 a2 y269 (!t274)) = some (r1, r2) := H
    have A11 := zA A110; clear A110; have H' := zA H; clear H
    go_wp2_with (first | ((with_reducible refine gate_callee (f := 17) rfl ?_); refine goesL_ (some 15) rfl rfl Tryd.func17 (by kernel_rfl) rfl #[.slice A0 l0.length c0] rfl (zM) ?_; (with_reducible refine (spec_l3Good.calls k _ _ l0 true _ ?side1 ?side2 A7.out).mono ?_); (case side1 => repeat (first | exact (Kd.C_below HR0.out HB.out) | (with_reducible refine Kd.C_alloc ?_ _) | (with_reducible refine Kd.C_drewN ?_ _) | (with_reducible refine Kd.C_drew ?_))); (case side2 => exact HC0.out); rintro e w12 ⟨rfl, hb⟩; refine ⟨_, rfl, ?_⟩; have n0_ := zA (Kd.S_below (by (with_reducible repeat (first | apply Kd.S_alloc | apply Kd.S_drewN | apply Kd.S_drew)); exact HO271.out) hb); have n1_ := zA (below_step (zW HB) hb); clear HO271; clear HB; have HO271 := n0_; have HB := n1_; clear n0_ n1_; (try clear hb); (try clear hb2); (try clear hk); (try clear hi)) | (go_at_call 18; (with_reducible refine (spec_l3Years.calls a1 true _ A9.out).mono ?_); rintro e w' ⟨rfl, ⟨nd, rfl⟩⟩) | (go_at_call 19; (with_reducible refine (spec_l1In.calls a2 0 33 t274 _ A11.out).mono ?_); rintro e w' ⟨rfl, ⟨nd, rfl⟩⟩))
    go_meet
    case rel => exact ⟨_, (!t274), (by first | rfl | (simp; done) | (simp [*]; done)), H', ⟨by first | omega | exact Nat.le_refl _⟩, ⟨by (with_reducible repeat (first | apply Kd.S_alloc | apply Kd.S_drewN | apply Kd.S_drew)); exact HO271.out⟩, ⟨by repeat (first | (with_reducible first | exact HB.out | apply below_alloc | apply pw_below_drewN | apply below_drew1) | exact HB.out)⟩⟩
   ·replace c10 := Bool.eq_false_iff.mpr c10
    subst c10
    have H1 : (spec_FadedApart.j0 k l0 a1 a2 y269 true) = some (r1, r2) := by rw [if_neg (show ¬ (false = true) by decide)] at H; exact H
    clear H; have H := H1; clear H1; have H' := zA H; clear H
    go_wp2_with (first | ((with_reducible refine gate_callee (f := 17) rfl ?_); refine goesL_ (some 15) rfl rfl Tryd.func17 (by kernel_rfl) rfl #[.slice A0 l0.length c0] rfl (zM) ?_; (with_reducible refine (spec_l3Good.calls k _ _ l0 true _ ?side1 ?side2 A7.out).mono ?_); (case side1 => repeat (first | exact (Kd.C_below HR0.out HB.out) | (with_reducible refine Kd.C_alloc ?_ _) | (with_reducible refine Kd.C_drewN ?_ _) | (with_reducible refine Kd.C_drew ?_))); (case side2 => exact HC0.out); rintro e w13 ⟨rfl, hb⟩; refine ⟨_, rfl, ?_⟩; have n0_ := zA (Kd.S_below (by (with_reducible repeat (first | apply Kd.S_alloc | apply Kd.S_drewN | apply Kd.S_drew)); exact HO271.out) hb); have n1_ := zA (below_step (zW HB) hb); clear HO271; clear HB; have HO271 := n0_; have HB := n1_; clear n0_ n1_; (try clear hb); (try clear hb2); (try clear hk); (try clear hi)) | (go_at_call 18; (with_reducible refine (spec_l3Years.calls a1 false _ A9.out).mono ?_); rintro e w' ⟨rfl, ⟨nd, rfl⟩⟩))
    go_meet
    case rel => exact ⟨_, (true), (by first | rfl | (simp; done) | (simp [*]; done)), H', ⟨by first | omega | exact Nat.le_refl _⟩, ⟨by (with_reducible repeat (first | apply Kd.S_alloc | apply Kd.S_drewN | apply Kd.S_drew)); exact HO271.out⟩, ⟨by repeat (first | (with_reducible first | exact HB.out | apply below_alloc | apply pw_below_drewN | apply below_drew1) | exact HB.out)⟩⟩
  ·replace c8 := Bool.eq_false_iff.mpr c8
   subst c8
   have H1 : (spec_FadedApart.j0 k l0 a1 a2 y269 true) = some (r1, r2) := by rw [if_neg (show ¬ (false = true) by decide)] at H; exact H
   clear H; have H := H1; clear H1; have H' := zA H; clear H
   go_wp2_with (first | ((with_reducible refine gate_callee (f := 17) rfl ?_); refine goesL_ (some 15) rfl rfl Tryd.func17 (by kernel_rfl) rfl #[.slice A0 l0.length c0] rfl (zM) ?_; (with_reducible refine (spec_l3Good.calls k _ _ l0 false _ ?side1 ?side2 A7.out).mono ?_); (case side1 => repeat (first | exact (Kd.C_below HR0.out HB.out) | (with_reducible refine Kd.C_alloc ?_ _) | (with_reducible refine Kd.C_drewN ?_ _) | (with_reducible refine Kd.C_drew ?_))); (case side2 => exact HC0.out); rintro e w14 ⟨rfl, hb⟩; refine ⟨_, rfl, ?_⟩; have n0_ := zA (Kd.S_below (by (with_reducible repeat (first | apply Kd.S_alloc | apply Kd.S_drewN | apply Kd.S_drew)); exact HO271.out) hb); have n1_ := zA (below_step (zW HB) hb); clear HO271; clear HB; have HO271 := n0_; have HB := n1_; clear n0_ n1_; (try clear hb); (try clear hb2); (try clear hk); (try clear hi)))
   go_meet
   case rel => exact ⟨_, (true), (by first | rfl | (simp; done) | (simp [*]; done)), H', ⟨by first | omega | exact Nat.le_refl _⟩, ⟨by (with_reducible repeat (first | apply Kd.S_alloc | apply Kd.S_drewN | apply Kd.S_drew)); exact HO271.out⟩, ⟨by repeat (first | (with_reducible first | exact HB.out | apply below_alloc | apply pw_below_drewN | apply below_drew1) | exact HB.out)⟩⟩
 case rest =>
  clear HC4
  try clear c1; try clear p2; try clear c6; try clear c8; try clear c10
  obtain ⟨kq, x26_3, rfl, HA, HJ3, HO_8, HB⟩ := hcut
  cases kq with
  | zero => exact absurd HA.out (by simp [spec_FadedApart.j0])
  | succ kj3 =>
   have H := HA.out; clear HA
   simp only [spec_FadedApart.j0] at H
   by_cases c15 : x26_3 = true
   ·subst c15
    have H1 : (some (y269, false)) = some (r1, r2) := by rw [if_pos rfl] at H; exact H
    clear H; have H := H1; clear H1
    simp only [Option.some.injEq, Prod.mk.injEq] at H
    obtain ⟨rfl, rfl⟩ := H
    go_wp2
    go_ret2
    exact ⟨_, by first | rfl | (simp [errW_none, errW_some] <;> rfl) | (simp [*, errW_none, errW_some] <;> rfl), by (with_reducible repeat (first | apply Kd.S_alloc | apply Kd.S_drewN | apply Kd.S_drew)); exact HO_8.out, by repeat (first | (with_reducible first | exact HB.out | apply below_alloc | apply pw_below_drewN | apply below_drew1) | exact HB.out)⟩
   ·replace c15 := Bool.eq_false_iff.mpr c15
    subst c15
    have H1 : (spec_FadedApart.l0 kj3 l0 a1 a2 y269 0) = some (r1, r2) := by rw [if_neg (show ¬ (false = true) by decide)] at H; exact H
    clear H; have H := H1; clear H1; have H' := zA H; clear H
    go_wp2
    go_loopg [8, 9] kj3 (fun kq v8 v9 w' => ∃ (x8_2 : List (List Int)) (x9_2 : Int), v9 = .int .i64 x9_2 ∧ Aside0 (spec_FadedApart.l0 kq l0 a1 a2 x8_2 x9_2 = some (r1, r2)) ∧ Aside0 (kq ≤ kj3) ∧ Aside0 (Kd.S (Kd.slice 3 (Kd.int .i64)) 45 w' w.heap.size (fun _ => True) v8 x8_2) ∧ Aside0 (Below w.heap.size w w'))
    case atStart => exact ⟨(y269), (0), (by first | rfl | (simp; done) | (simp [*]; done)), H', ⟨Nat.le_refl _⟩, ⟨by (with_reducible repeat (first | apply Kd.S_alloc | apply Kd.S_drewN | apply Kd.S_drew)); exact HO_8.out⟩, ⟨by repeat (first | (with_reducible first | exact HB.out | apply below_alloc | apply pw_below_drewN | apply below_drew1) | exact HB.out)⟩⟩
    case round =>
     clear H'
     try clear c1; try clear p2; try clear c6; try clear c8; try clear c10; try clear c15; try clear p2
     obtain ⟨x8_2, x9_2, rfl, HA, HK2, HO_8, HB⟩ := hrel
     cases gk with
     | zero => exact absurd HA.out (by simp [spec_FadedApart.l0])
     | succ k2 =>
      have H := HA.out; clear HA
      simp only [spec_FadedApart.l0] at H
      by_cases c16 : x9_2 < (l0.length : Int)
      ·rw [if_pos c16] at H
       have c16b0 : decide (x9_2 < (l0.length : Int)) = true := decide_eq_true c16; clear c16; have H' := zA H; clear H
       go_wp2
       go_loopg [8, 10] k2 (fun kq v8 v10 w' => ∃ (x8_3 : List (List Int)) (x10_3 : Int), v10 = .int .i64 x10_3 ∧ Aside0 (spec_FadedApart.l1 kq l0 a1 a2 x8_3 x9_2 x10_3 = some (r1, r2)) ∧ Aside0 (kq ≤ k2) ∧ Aside0 (Kd.S (Kd.slice 3 (Kd.int .i64)) 45 w' w.heap.size (fun _ => True) v8 x8_3) ∧ Aside0 (Below w.heap.size w w'))
       case atStart => exact ⟨(x8_2), (wrap64 (x9_2 + 1)), (by first | rfl | (simp; done) | (simp [*]; done)), H', ⟨Nat.le_refl _⟩, ⟨by (with_reducible repeat (first | apply Kd.S_alloc | apply Kd.S_drewN | apply Kd.S_drew)); exact HO_8.out⟩, ⟨by repeat (first | (with_reducible first | exact HB.out | apply below_alloc | apply pw_below_drewN | apply below_drew1) | exact HB.out)⟩⟩
       case round =>
        clear H'
        try clear c1; try clear p2; try clear c6; try clear p6; try clear c8; try clear c10; try clear c15; try clear c16; try clear c16b0; try clear p2
        obtain ⟨x8_3, x10_3, rfl, HA, HK3, HO_8, HB⟩ := hrel
        cases gk with
        | zero => exact absurd HA.out (by simp [spec_FadedApart.l1])
        | succ k3 =>
         have H := HA.out; clear HA
         simp only [spec_FadedApart.l1] at H
         by_cases c17 : x10_3 < (l0.length : Int)
         ·rw [if_pos c17] at H
          have c17b0 : decide (x10_3 < (l0.length : Int)) = true := decide_eq_true c17; clear c17
          by_cases c18 : 0 ≤ x9_2
          ·rw [if_pos c18] at H
           have c18b0 : decide (0 ≤ x9_2) = true := decide_eq_true c18; clear c18
           by_cases c19 : x9_2 < (l0.length : Int)
           ·rw [if_pos c19] at H
            have c19b0 : decide (x9_2 < (l0.length : Int)) = true := decide_eq_true c19; clear c19
            replace H := Option.bind_eq_some_iff.mp H
            obtain ⟨⟨t276, t277, t278, t279, t280⟩, A200, H⟩ := H
            replace H : (if 0 ≤ x10_3 then ((spec_l3Faded.f ((rd_T42 l0 x10_3).f0) ((rd_T42 l0 x10_3).f1) ((rd_T42 l0 x10_3).f2) ((rd_T42 l0 x10_3).f3) ((rd_T42 l0 x10_3).f4) a1).bind fun bt282 => ((spec_l3Far.f ((rd_T42 l0 x9_2).f0) ((rd_T42 l0 x9_2).f1) ((rd_T42 l0 x9_2).f2) ((rd_T42 l0 x9_2).f3) ((rd_T42 l0 x9_2).f4) ((rd_T42 l0 x10_3).f2) ((rd_T42 l0 x10_3).f3)).bind fun t292 => (if t292 ≥ a2 then ((spec_l3Far.f t276 t277 t278 t279 t280 bt282.2.2.1 bt282.2.2.2.1).bind fun t293 => (if t293 < a2 then (if x8_3.length < 5864062014805 then (spec_FadedApart.l1 k3 l0 a1 a2 (x8_3 ++ [(([t276, bt282.1] : List Int))]) x9_2 (wrap64 (x10_3 + 1))) else (none)) else (spec_FadedApart.l1 k3 l0 a1 a2 x8_3 x9_2 (wrap64 (x10_3 + 1))))) else (spec_FadedApart.l1 k3 l0 a1 a2 x8_3 x9_2 (wrap64 (x10_3 + 1)))))) else (none)) = some (r1, r2) := H
            have A20 := zA A200; clear A200
            by_cases c21 : 0 ≤ x10_3
            ·rw [if_pos c21] at H
             have c21b0 : decide (0 ≤ x10_3) = true := decide_eq_true c21; clear c21
             replace H := Option.bind_eq_some_iff.mp H
             obtain ⟨⟨t282, t283, t284, t285, t286⟩, A220, H⟩ := H
             replace H : ((spec_l3Far.f ((rd_T42 l0 x9_2).f0) ((rd_T42 l0 x9_2).f1) ((rd_T42 l0 x9_2).f2) ((rd_T42 l0 x9_2).f3) ((rd_T42 l0 x9_2).f4) ((rd_T42 l0 x10_3).f2) ((rd_T42 l0 x10_3).f3)).bind fun t292 => (if t292 ≥ a2 then ((spec_l3Far.f t276 t277 t278 t279 t280 t284 t285).bind fun t293 => (if t293 < a2 then (if x8_3.length < 5864062014805 then (spec_FadedApart.l1 k3 l0 a1 a2 (x8_3 ++ [(([t276, t282] : List Int))]) x9_2 (wrap64 (x10_3 + 1))) else (none)) else (spec_FadedApart.l1 k3 l0 a1 a2 x8_3 x9_2 (wrap64 (x10_3 + 1))))) else (spec_FadedApart.l1 k3 l0 a1 a2 x8_3 x9_2 (wrap64 (x10_3 + 1))))) = some (r1, r2) := H
             have A22 := zA A220; clear A220
             replace H := Option.bind_eq_some_iff.mp H
             obtain ⟨t292, A230, H⟩ := H
             replace H : (if t292 ≥ a2 then ((spec_l3Far.f t276 t277 t278 t279 t280 t284 t285).bind fun t293 => (if t293 < a2 then (if x8_3.length < 5864062014805 then (spec_FadedApart.l1 k3 l0 a1 a2 (x8_3 ++ [(([t276, t282] : List Int))]) x9_2 (wrap64 (x10_3 + 1))) else (none)) else (spec_FadedApart.l1 k3 l0 a1 a2 x8_3 x9_2 (wrap64 (x10_3 + 1))))) else (spec_FadedApart.l1 k3 l0 a1 a2 x8_3 x9_2 (wrap64 (x10_3 + 1)))) = some (r1, r2) := H
             have A23 := zA A230; clear A230; have HH_ := zA H; clear H
             try go_wp2
             have n0_ := zA (Kd.S_drew HO_8.out); have n1_ := zA (below_drew1 HB.out); clear HO_8; clear HB; have HO_8 := n0_; have HB := n1_; clear n0_ n1_; have p275 : 0 ≤ (x9_2 : Int) := of_decide_eq_true (by first | (with_reducible assumption) | assumption); have q275 : x9_2 < (l0.length : Int) := of_decide_eq_true (by first | (with_reducible assumption) | assumption)
             obtain ⟨ad275, e275, hx275_0, hx275_1, hx275_2, hx275_3, hx275_4⟩ := at_T42 HR0.out x9_2 p275 q275
             have hw275_4 := hx275_4; have hw275_3 := hx275_3; have hw275_2 := hx275_2; have hw275_1 := hx275_1; have hw275_0 := hx275_0
             cases e275
             replace hx275_0 := (HB.out.cell (World.block_lt_of_cell? w _ hx275_0)).trans hx275_0
             replace hx275_1 := (HB.out.cell (World.block_lt_of_cell? w _ hx275_1)).trans hx275_1
             replace hx275_2 := (HB.out.cell (World.block_lt_of_cell? w _ hx275_2)).trans hx275_2
             replace hx275_3 := (HB.out.cell (World.block_lt_of_cell? w _ hx275_3)).trans hx275_3
             replace hx275_4 := (HB.out.cell (World.block_lt_of_cell? w _ hx275_4)).trans hx275_4
             replace p275 := eq_true p275
             replace q275 := eq_true q275
             have p281 : 0 ≤ (x10_3 : Int) := of_decide_eq_true (by first | (with_reducible assumption) | assumption); have q281 : x10_3 < (l0.length : Int) := of_decide_eq_true (by first | (with_reducible assumption) | assumption)
             obtain ⟨ad281, e281, hx281_0, hx281_1, hx281_2, hx281_3, hx281_4⟩ := at_T42 HR0.out x10_3 p281 q281
             have hw281_4 := hx281_4; have hw281_3 := hx281_3; have hw281_2 := hx281_2; have hw281_1 := hx281_1; have hw281_0 := hx281_0
             obtain rfl : ad275 = ad281 := (by injection e281)
             replace hx281_0 := (HB.out.cell (World.block_lt_of_cell? w _ hx281_0)).trans hx281_0
             replace hx281_1 := (HB.out.cell (World.block_lt_of_cell? w _ hx281_1)).trans hx281_1
             replace hx281_2 := (HB.out.cell (World.block_lt_of_cell? w _ hx281_2)).trans hx281_2
             replace hx281_3 := (HB.out.cell (World.block_lt_of_cell? w _ hx281_3)).trans hx281_3
             replace hx281_4 := (HB.out.cell (World.block_lt_of_cell? w _ hx281_4)).trans hx281_4
             replace p281 := eq_true p281
             replace q281 := eq_true q281
             refine start_ (n := 16) (S := fun w' => w'.cell? (ad275.add ((x9_2).toNat * 5)) = some (.int .i64 ((rd_T42 l0 x9_2).f0)) ∧ w'.cell? ⟨(ad275.add ((x9_2).toNat * 5)).block, (ad275.add ((x9_2).toNat * 5)).off + 1, none⟩ = some (.string ((rd_T42 l0 x9_2).f1)) ∧ w'.cell? ⟨(ad275.add ((x9_2).toNat * 5)).block, (ad275.add ((x9_2).toNat * 5)).off + 2, none⟩ = some (.int .i64 ((rd_T42 l0 x9_2).f2)) ∧ w'.cell? ⟨(ad275.add ((x9_2).toNat * 5)).block, (ad275.add ((x9_2).toNat * 5)).off + 3, none⟩ = some (.int .i64 ((rd_T42 l0 x9_2).f3)) ∧ w'.cell? ⟨(ad275.add ((x9_2).toNat * 5)).block, (ad275.add ((x9_2).toNat * 5)).off + 4, none⟩ = some (.int .i64 ((rd_T42 l0 x9_2).f4)) ∧ w'.cell? (ad275.add ((x10_3).toNat * 5)) = some (.int .i64 ((rd_T42 l0 x10_3).f0)) ∧ w'.cell? ⟨(ad275.add ((x10_3).toNat * 5)).block, (ad275.add ((x10_3).toNat * 5)).off + 1, none⟩ = some (.string ((rd_T42 l0 x10_3).f1)) ∧ w'.cell? ⟨(ad275.add ((x10_3).toNat * 5)).block, (ad275.add ((x10_3).toNat * 5)).off + 2, none⟩ = some (.int .i64 ((rd_T42 l0 x10_3).f2)) ∧ w'.cell? ⟨(ad275.add ((x10_3).toNat * 5)).block, (ad275.add ((x10_3).toNat * 5)).off + 3, none⟩ = some (.int .i64 ((rd_T42 l0 x10_3).f3)) ∧ w'.cell? ⟨(ad275.add ((x10_3).toNat * 5)).block, (ad275.add ((x10_3).toNat * 5)).off + 4, none⟩ = some (.int .i64 ((rd_T42 l0 x10_3).f4))) (ds := []) #[false, false, false, false, false, false, false, false, false, false, false, false, false, false, false, false] (by kernel_rfl) rfl rfl ⟨((HB.out.cell (World.block_lt_of_cell? w _ hw275_0)).trans hw275_0), ((HB.out.cell (World.block_lt_of_cell? w _ hw275_1)).trans hw275_1), ((HB.out.cell (World.block_lt_of_cell? w _ hw275_2)).trans hw275_2), ((HB.out.cell (World.block_lt_of_cell? w _ hw275_3)).trans hw275_3), ((HB.out.cell (World.block_lt_of_cell? w _ hw275_4)).trans hw275_4), ((HB.out.cell (World.block_lt_of_cell? w _ hw281_0)).trans hw281_0), ((HB.out.cell (World.block_lt_of_cell? w _ hw281_1)).trans hw281_1), ((HB.out.cell (World.block_lt_of_cell? w _ hw281_2)).trans hw281_2), ((HB.out.cell (World.block_lt_of_cell? w _ hw281_3)).trans hw281_3), ((HB.out.cell (World.block_lt_of_cell? w _ hw281_4)).trans hw281_4)⟩ (fun hHeld => ?_); refine with_tabW spec_FadedApart.tab10 spec_FadedApart.bits10 (fun HT_ HW_ => ?_)
             generalize wr.drew = w28 at HO_8 HB hx275_0 hx275_1 hx275_2 hx275_3 hx275_4 hx281_0 hx281_1 hx281_2 hx281_3 hx281_4 hHeld ⊢
             refine pure_ (i := 0) (N := some 42) (v := ?_) (a' := ?_) #[true, false, false, false, false, false, false, false, false, false, false, false, false, false, false, false] rfl rfl (any_of HT_.out (by kernel_rfl)) (fun _ _ _ h => h) (Or.inl ⟨by rfl, ?_⟩) ?_ ?_
             rotate_left
             ·intro w'
              go_simp
              with_reducible rfl
             rotate_left
             ·simp only [Act.put, List.setIfInBounds_toArray, List.set_cons_zero, List.set_cons_succ, i64_w, i32_w]
              rfl
             refine pure_ (i := 1) (N := some 43) (v := ?_) (a' := ?_) #[true, true, false, false, false, false, false, false, false, false, false, false, false, false, false, false] rfl rfl (any_of HT_.out (by kernel_rfl)) (fun _ _ _ h => h) (Or.inl ⟨by rfl, ?_⟩) ?_ ?_
             rotate_left
             ·intro w'
              go_simp
              with_reducible rfl
             rotate_left
             ·simp only [Act.put, List.setIfInBounds_toArray, List.set_cons_zero, List.set_cons_succ, i64_w, i32_w]
              rfl
             refine pure_ (i := 2) (N := some 44) (v := ?_) (a' := ?_) #[true, true, true, false, false, false, false, false, false, false, false, false, false, false, false, false] rfl rfl (any_of HT_.out (by kernel_rfl)) (fun _ _ _ h => h) (Or.inl ⟨by rfl, ?_⟩) ?_ ?_
             rotate_left
             ·intro w'
              go_simp
              with_reducible rfl
             rotate_left
             ·simp only [Act.put, List.setIfInBounds_toArray, List.set_cons_zero, List.set_cons_succ, i64_w, i32_w]
              rfl
             refine pure_ (i := 4) (N := some 46) (v := ?_) (a' := ?_) #[true, true, true, false, true, false, false, false, false, false, false, false, false, false, false, false] rfl rfl (any_of HT_.out (by kernel_rfl)) (fun _ _ _ h => h) (Or.inl ⟨by rfl, ?_⟩) ?_ ?_
             rotate_left
             ·intro w'
              go_simp
              with_reducible rfl
             rotate_left
             ·simp only [Act.put, List.setIfInBounds_toArray, List.set_cons_zero, List.set_cons_succ, i64_w, i32_w]
              rfl
             refine pure_ (i := 6) (N := some 48) (v := ?_) (a' := ?_) #[true, true, true, false, true, false, true, false, false, false, false, false, false, false, false, false] rfl rfl (any_of HT_.out (by kernel_rfl)) (fun _ _ _ h => h) (Or.inl ⟨by rfl, ?_⟩) ?_ ?_
             rotate_left
             ·intro w'
              go_simp
              with_reducible rfl
             rotate_left
             ·simp only [Act.put, List.setIfInBounds_toArray, List.set_cons_zero, List.set_cons_succ, i64_w, i32_w]
              rfl
             refine pure_ (i := 7) (N := some 49) (v := ?_) (a' := ?_) #[true, true, true, false, true, false, true, true, false, false, false, false, false, false, false, false] rfl rfl (any_of HT_.out (by kernel_rfl)) (fun _ _ _ h => h) (Or.inl ⟨by rfl, ?_⟩) ?_ ?_
             rotate_left
             ·intro w'
              go_simp
              with_reducible rfl
             rotate_left
             ·simp only [Act.put, List.setIfInBounds_toArray, List.set_cons_zero, List.set_cons_succ, i64_w, i32_w]
              rfl
             refine pure_ (i := 8) (N := some 50) (v := ?_) (a' := ?_) #[true, true, true, false, true, false, true, true, true, false, false, false, false, false, false, false] rfl rfl (any_of HT_.out (by kernel_rfl)) (fun _ _ _ h => h) (Or.inl ⟨by rfl, ?_⟩) ?_ ?_
             rotate_left
             ·intro w'
              go_simp
              with_reducible rfl
             rotate_left
             ·simp only [Act.put, List.setIfInBounds_toArray, List.set_cons_zero, List.set_cons_succ, i64_w, i32_w]
              rfl
             refine pure_ (i := 10) (N := some 52) (v := ?_) (a' := ?_) #[true, true, true, false, true, false, true, true, true, false, true, false, false, false, false, false] rfl rfl (any_of HT_.out (by kernel_rfl)) (fun _ _ _ h => h) (Or.inl ⟨by rfl, ?_⟩) ?_ ?_
             rotate_left
             ·intro w'
              go_simp
              with_reducible rfl
             rotate_left
             ·simp only [Act.put, List.setIfInBounds_toArray, List.set_cons_zero, List.set_cons_succ, i64_w, i32_w]
              rfl
             refine take_ (i := 3) (N := some 45) (v := ?_) (a' := ?_) #[true, true, true, true, true, false, true, true, true, false, true, false, false, false, false, false] rfl rfl (take_ofW HT_.out HW_.out (by kernel_rfl)) (fun _ _ _ h => h) (Or.inl ⟨by rfl, ?_⟩) hHeld ?_ ?_
             rotate_left
             ·rintro w' ⟨s0, s1, s2, s3, s4, s5, s6, s7, s8, s9⟩
              go_simp
              with_reducible rfl
             rotate_left
             ·simp only [Act.put, List.setIfInBounds_toArray, List.set_cons_zero, List.set_cons_succ, i64_w, i32_w]
              rfl
             refine take_ (i := 9) (N := some 51) (v := ?_) (a' := ?_) #[true, true, true, true, true, false, true, true, true, true, true, false, false, false, false, false] rfl rfl (take_ofW HT_.out HW_.out (by kernel_rfl)) (fun _ _ _ h => h) (Or.inl ⟨by rfl, ?_⟩) hHeld ?_ ?_
             rotate_left
             ·rintro w' ⟨s0, s1, s2, s3, s4, s5, s6, s7, s8, s9⟩
              go_simp
              with_reducible rfl
             rotate_left
             ·simp only [Act.put, List.setIfInBounds_toArray, List.set_cons_zero, List.set_cons_succ, i64_w, i32_w]
              rfl
             refine join_ (σ := Nat × Nat) 2 #[true, true, true, true, true, true, true, true, true, true, true, true, true, true, false, false] (fun s_ => [(47, .agg #[.int .i64 t276, .string t277, .int .i64 t278, .int .i64 t279, .int .i64 t280]), (53, .agg #[.int .i64 t282, .string t283, .int .i64 t284, .int .i64 t285, .int .i64 t286]), (11, .pointer (some ⟨s_.1, 0, none⟩)), (12, .pointer (some ⟨s_.2, 0, none⟩))]) (fun s_ w' => (w'.cell? (ad275.add ((x9_2).toNat * 5)) = some (.int .i64 ((rd_T42 l0 x9_2).f0)) ∧ w'.cell? ⟨(ad275.add ((x9_2).toNat * 5)).block, (ad275.add ((x9_2).toNat * 5)).off + 1, none⟩ = some (.string ((rd_T42 l0 x9_2).f1)) ∧ w'.cell? ⟨(ad275.add ((x9_2).toNat * 5)).block, (ad275.add ((x9_2).toNat * 5)).off + 2, none⟩ = some (.int .i64 ((rd_T42 l0 x9_2).f2)) ∧ w'.cell? ⟨(ad275.add ((x9_2).toNat * 5)).block, (ad275.add ((x9_2).toNat * 5)).off + 3, none⟩ = some (.int .i64 ((rd_T42 l0 x9_2).f3)) ∧ w'.cell? ⟨(ad275.add ((x9_2).toNat * 5)).block, (ad275.add ((x9_2).toNat * 5)).off + 4, none⟩ = some (.int .i64 ((rd_T42 l0 x9_2).f4)) ∧ w'.cell? (ad275.add ((x10_3).toNat * 5)) = some (.int .i64 ((rd_T42 l0 x10_3).f0)) ∧ w'.cell? ⟨(ad275.add ((x10_3).toNat * 5)).block, (ad275.add ((x10_3).toNat * 5)).off + 1, none⟩ = some (.string ((rd_T42 l0 x10_3).f1)) ∧ w'.cell? ⟨(ad275.add ((x10_3).toNat * 5)).block, (ad275.add ((x10_3).toNat * 5)).off + 2, none⟩ = some (.int .i64 ((rd_T42 l0 x10_3).f2)) ∧ w'.cell? ⟨(ad275.add ((x10_3).toNat * 5)).block, (ad275.add ((x10_3).toNat * 5)).off + 3, none⟩ = some (.int .i64 ((rd_T42 l0 x10_3).f3)) ∧ w'.cell? ⟨(ad275.add ((x10_3).toNat * 5)).block, (ad275.add ((x10_3).toNat * 5)).off + 4, none⟩ = some (.int .i64 ((rd_T42 l0 x10_3).f4))) ∧ (Kd.S (Kd.slice 3 (Kd.int .i64)) 45 w' w.heap.size (fun _ => True) u8 x8_3) ∧ (w'.heap[s_.1]? = some (.cells #[.int .i64 0, .string (⟨#[]⟩ : ByteArray), .int .i64 0, .int .i64 0, .int .i64 0] 42 (0, 0))) ∧ (w'.heap[s_.2]? = some (.cells #[.int .i64 0, .string (⟨#[]⟩ : ByteArray), .int .i64 0, .int .i64 0, .int .i64 0] 42 (0, 0))) ∧ (w.heap.size ≤ s_.1) ∧ (w.heap.size ≤ s_.1) ∧ (s_.2 ≠ s_.1) ∧ (s_.1 ≠ s_.2) ∧ (w.heap.size ≤ s_.2) ∧ (w.heap.size ≤ s_.2) ∧ (Below w.heap.size w w')) ?_ ?_
             rotate_left
             ·intro hJ5_11_12_13
              refine join_ (σ := Nat) 3 #[true, true, true, true, true, true, true, true, true, true, true, true, true, false, false, false] (fun s_ => [(47, .agg #[.int .i64 t276, .string t277, .int .i64 t278, .int .i64 t279, .int .i64 t280]), (53, .agg #[.int .i64 t282, .string t283, .int .i64 t284, .int .i64 t285, .int .i64 t286]), (11, .pointer (some ⟨s_, 0, none⟩))]) (fun s_ w' => (w'.cell? (ad275.add ((x9_2).toNat * 5)) = some (.int .i64 ((rd_T42 l0 x9_2).f0)) ∧ w'.cell? ⟨(ad275.add ((x9_2).toNat * 5)).block, (ad275.add ((x9_2).toNat * 5)).off + 1, none⟩ = some (.string ((rd_T42 l0 x9_2).f1)) ∧ w'.cell? ⟨(ad275.add ((x9_2).toNat * 5)).block, (ad275.add ((x9_2).toNat * 5)).off + 2, none⟩ = some (.int .i64 ((rd_T42 l0 x9_2).f2)) ∧ w'.cell? ⟨(ad275.add ((x9_2).toNat * 5)).block, (ad275.add ((x9_2).toNat * 5)).off + 3, none⟩ = some (.int .i64 ((rd_T42 l0 x9_2).f3)) ∧ w'.cell? ⟨(ad275.add ((x9_2).toNat * 5)).block, (ad275.add ((x9_2).toNat * 5)).off + 4, none⟩ = some (.int .i64 ((rd_T42 l0 x9_2).f4)) ∧ w'.cell? (ad275.add ((x10_3).toNat * 5)) = some (.int .i64 ((rd_T42 l0 x10_3).f0)) ∧ w'.cell? ⟨(ad275.add ((x10_3).toNat * 5)).block, (ad275.add ((x10_3).toNat * 5)).off + 1, none⟩ = some (.string ((rd_T42 l0 x10_3).f1)) ∧ w'.cell? ⟨(ad275.add ((x10_3).toNat * 5)).block, (ad275.add ((x10_3).toNat * 5)).off + 2, none⟩ = some (.int .i64 ((rd_T42 l0 x10_3).f2)) ∧ w'.cell? ⟨(ad275.add ((x10_3).toNat * 5)).block, (ad275.add ((x10_3).toNat * 5)).off + 3, none⟩ = some (.int .i64 ((rd_T42 l0 x10_3).f3)) ∧ w'.cell? ⟨(ad275.add ((x10_3).toNat * 5)).block, (ad275.add ((x10_3).toNat * 5)).off + 4, none⟩ = some (.int .i64 ((rd_T42 l0 x10_3).f4))) ∧ (Kd.S (Kd.slice 3 (Kd.int .i64)) 45 w' w.heap.size (fun _ => True) u8 x8_3) ∧ (w'.heap[s_]? = some (.cells #[.int .i64 0, .string (⟨#[]⟩ : ByteArray), .int .i64 0, .int .i64 0, .int .i64 0] 42 (0, 0))) ∧ (w.heap.size ≤ s_) ∧ (w.heap.size ≤ s_) ∧ (Below w.heap.size w w')) ?_ ?_
              rotate_left
              ·intro hJ5_11_12
               refine join_ (σ := Nat) 3 #[true, true, true, true, true, true, true, true, true, true, true, true, false, true, false, false] (fun s_ => [(47, .agg #[.int .i64 t276, .string t277, .int .i64 t278, .int .i64 t279, .int .i64 t280]), (53, .agg #[.int .i64 t282, .string t283, .int .i64 t284, .int .i64 t285, .int .i64 t286]), (12, .pointer (some ⟨s_, 0, none⟩))]) (fun s_ w' => (w'.cell? (ad275.add ((x9_2).toNat * 5)) = some (.int .i64 ((rd_T42 l0 x9_2).f0)) ∧ w'.cell? ⟨(ad275.add ((x9_2).toNat * 5)).block, (ad275.add ((x9_2).toNat * 5)).off + 1, none⟩ = some (.string ((rd_T42 l0 x9_2).f1)) ∧ w'.cell? ⟨(ad275.add ((x9_2).toNat * 5)).block, (ad275.add ((x9_2).toNat * 5)).off + 2, none⟩ = some (.int .i64 ((rd_T42 l0 x9_2).f2)) ∧ w'.cell? ⟨(ad275.add ((x9_2).toNat * 5)).block, (ad275.add ((x9_2).toNat * 5)).off + 3, none⟩ = some (.int .i64 ((rd_T42 l0 x9_2).f3)) ∧ w'.cell? ⟨(ad275.add ((x9_2).toNat * 5)).block, (ad275.add ((x9_2).toNat * 5)).off + 4, none⟩ = some (.int .i64 ((rd_T42 l0 x9_2).f4)) ∧ w'.cell? (ad275.add ((x10_3).toNat * 5)) = some (.int .i64 ((rd_T42 l0 x10_3).f0)) ∧ w'.cell? ⟨(ad275.add ((x10_3).toNat * 5)).block, (ad275.add ((x10_3).toNat * 5)).off + 1, none⟩ = some (.string ((rd_T42 l0 x10_3).f1)) ∧ w'.cell? ⟨(ad275.add ((x10_3).toNat * 5)).block, (ad275.add ((x10_3).toNat * 5)).off + 2, none⟩ = some (.int .i64 ((rd_T42 l0 x10_3).f2)) ∧ w'.cell? ⟨(ad275.add ((x10_3).toNat * 5)).block, (ad275.add ((x10_3).toNat * 5)).off + 3, none⟩ = some (.int .i64 ((rd_T42 l0 x10_3).f3)) ∧ w'.cell? ⟨(ad275.add ((x10_3).toNat * 5)).block, (ad275.add ((x10_3).toNat * 5)).off + 4, none⟩ = some (.int .i64 ((rd_T42 l0 x10_3).f4))) ∧ (Kd.S (Kd.slice 3 (Kd.int .i64)) 45 w' w.heap.size (fun _ => True) u8 x8_3) ∧ (w'.heap[s_]? = some (.cells #[.int .i64 0, .string (⟨#[]⟩ : ByteArray), .int .i64 0, .int .i64 0, .int .i64 0] 42 (0, 0))) ∧ (w.heap.size ≤ s_) ∧ (w.heap.size ≤ s_) ∧ (Below w.heap.size w w')) ?_ ?_
               rotate_left
               ·intro hJ5_11_13
                refine join_ (σ := Nat × Nat) 3 #[true, true, true, true, true, true, true, true, true, true, true, false, true, true, false, false] (fun s_ => [(47, .agg #[.int .i64 t276, .string t277, .int .i64 t278, .int .i64 t279, .int .i64 t280]), (11, .pointer (some ⟨s_.1, 0, none⟩)), (12, .pointer (some ⟨s_.2, 0, none⟩))]) (fun s_ w' => (w'.cell? (ad275.add ((x9_2).toNat * 5)) = some (.int .i64 ((rd_T42 l0 x9_2).f0)) ∧ w'.cell? ⟨(ad275.add ((x9_2).toNat * 5)).block, (ad275.add ((x9_2).toNat * 5)).off + 1, none⟩ = some (.string ((rd_T42 l0 x9_2).f1)) ∧ w'.cell? ⟨(ad275.add ((x9_2).toNat * 5)).block, (ad275.add ((x9_2).toNat * 5)).off + 2, none⟩ = some (.int .i64 ((rd_T42 l0 x9_2).f2)) ∧ w'.cell? ⟨(ad275.add ((x9_2).toNat * 5)).block, (ad275.add ((x9_2).toNat * 5)).off + 3, none⟩ = some (.int .i64 ((rd_T42 l0 x9_2).f3)) ∧ w'.cell? ⟨(ad275.add ((x9_2).toNat * 5)).block, (ad275.add ((x9_2).toNat * 5)).off + 4, none⟩ = some (.int .i64 ((rd_T42 l0 x9_2).f4)) ∧ w'.cell? (ad275.add ((x10_3).toNat * 5)) = some (.int .i64 ((rd_T42 l0 x10_3).f0)) ∧ w'.cell? ⟨(ad275.add ((x10_3).toNat * 5)).block, (ad275.add ((x10_3).toNat * 5)).off + 1, none⟩ = some (.string ((rd_T42 l0 x10_3).f1)) ∧ w'.cell? ⟨(ad275.add ((x10_3).toNat * 5)).block, (ad275.add ((x10_3).toNat * 5)).off + 2, none⟩ = some (.int .i64 ((rd_T42 l0 x10_3).f2)) ∧ w'.cell? ⟨(ad275.add ((x10_3).toNat * 5)).block, (ad275.add ((x10_3).toNat * 5)).off + 3, none⟩ = some (.int .i64 ((rd_T42 l0 x10_3).f3)) ∧ w'.cell? ⟨(ad275.add ((x10_3).toNat * 5)).block, (ad275.add ((x10_3).toNat * 5)).off + 4, none⟩ = some (.int .i64 ((rd_T42 l0 x10_3).f4))) ∧ (Kd.S (Kd.slice 3 (Kd.int .i64)) 45 w' w.heap.size (fun _ => True) u8 x8_3) ∧ (w'.heap[s_.1]? = some (.cells #[.int .i64 0, .string (⟨#[]⟩ : ByteArray), .int .i64 0, .int .i64 0, .int .i64 0] 42 (0, 0))) ∧ (w'.heap[s_.2]? = some (.cells #[.int .i64 0, .string (⟨#[]⟩ : ByteArray), .int .i64 0, .int .i64 0, .int .i64 0] 42 (0, 0))) ∧ (w.heap.size ≤ s_.1) ∧ (w.heap.size ≤ s_.1) ∧ (s_.2 ≠ s_.1) ∧ (s_.1 ≠ s_.2) ∧ (w.heap.size ≤ s_.2) ∧ (w.heap.size ≤ s_.2) ∧ (Below w.heap.size w w')) ?_ ?_
                rotate_left
                ·intro hJ5_12_13
                 refine join_ (σ := Unit) 4 #[true, true, true, true, true, true, true, true, true, true, true, true, false, false, false, false] (fun s_ => [(47, .agg #[.int .i64 t276, .string t277, .int .i64 t278, .int .i64 t279, .int .i64 t280]), (53, .agg #[.int .i64 t282, .string t283, .int .i64 t284, .int .i64 t285, .int .i64 t286])]) (fun s_ w' => (w'.cell? (ad275.add ((x9_2).toNat * 5)) = some (.int .i64 ((rd_T42 l0 x9_2).f0)) ∧ w'.cell? ⟨(ad275.add ((x9_2).toNat * 5)).block, (ad275.add ((x9_2).toNat * 5)).off + 1, none⟩ = some (.string ((rd_T42 l0 x9_2).f1)) ∧ w'.cell? ⟨(ad275.add ((x9_2).toNat * 5)).block, (ad275.add ((x9_2).toNat * 5)).off + 2, none⟩ = some (.int .i64 ((rd_T42 l0 x9_2).f2)) ∧ w'.cell? ⟨(ad275.add ((x9_2).toNat * 5)).block, (ad275.add ((x9_2).toNat * 5)).off + 3, none⟩ = some (.int .i64 ((rd_T42 l0 x9_2).f3)) ∧ w'.cell? ⟨(ad275.add ((x9_2).toNat * 5)).block, (ad275.add ((x9_2).toNat * 5)).off + 4, none⟩ = some (.int .i64 ((rd_T42 l0 x9_2).f4)) ∧ w'.cell? (ad275.add ((x10_3).toNat * 5)) = some (.int .i64 ((rd_T42 l0 x10_3).f0)) ∧ w'.cell? ⟨(ad275.add ((x10_3).toNat * 5)).block, (ad275.add ((x10_3).toNat * 5)).off + 1, none⟩ = some (.string ((rd_T42 l0 x10_3).f1)) ∧ w'.cell? ⟨(ad275.add ((x10_3).toNat * 5)).block, (ad275.add ((x10_3).toNat * 5)).off + 2, none⟩ = some (.int .i64 ((rd_T42 l0 x10_3).f2)) ∧ w'.cell? ⟨(ad275.add ((x10_3).toNat * 5)).block, (ad275.add ((x10_3).toNat * 5)).off + 3, none⟩ = some (.int .i64 ((rd_T42 l0 x10_3).f3)) ∧ w'.cell? ⟨(ad275.add ((x10_3).toNat * 5)).block, (ad275.add ((x10_3).toNat * 5)).off + 4, none⟩ = some (.int .i64 ((rd_T42 l0 x10_3).f4))) ∧ (Kd.S (Kd.slice 3 (Kd.int .i64)) 45 w' w.heap.size (fun _ => True) u8 x8_3) ∧ (Below w.heap.size w w')) ?_ ?_
                 rotate_left
                 ·intro hJ5_11
                  refine join_ (σ := Nat) 4 #[true, true, true, true, true, true, true, true, true, true, true, false, true, false, false, false] (fun s_ => [(47, .agg #[.int .i64 t276, .string t277, .int .i64 t278, .int .i64 t279, .int .i64 t280]), (11, .pointer (some ⟨s_, 0, none⟩))]) (fun s_ w' => (w'.cell? (ad275.add ((x9_2).toNat * 5)) = some (.int .i64 ((rd_T42 l0 x9_2).f0)) ∧ w'.cell? ⟨(ad275.add ((x9_2).toNat * 5)).block, (ad275.add ((x9_2).toNat * 5)).off + 1, none⟩ = some (.string ((rd_T42 l0 x9_2).f1)) ∧ w'.cell? ⟨(ad275.add ((x9_2).toNat * 5)).block, (ad275.add ((x9_2).toNat * 5)).off + 2, none⟩ = some (.int .i64 ((rd_T42 l0 x9_2).f2)) ∧ w'.cell? ⟨(ad275.add ((x9_2).toNat * 5)).block, (ad275.add ((x9_2).toNat * 5)).off + 3, none⟩ = some (.int .i64 ((rd_T42 l0 x9_2).f3)) ∧ w'.cell? ⟨(ad275.add ((x9_2).toNat * 5)).block, (ad275.add ((x9_2).toNat * 5)).off + 4, none⟩ = some (.int .i64 ((rd_T42 l0 x9_2).f4)) ∧ w'.cell? (ad275.add ((x10_3).toNat * 5)) = some (.int .i64 ((rd_T42 l0 x10_3).f0)) ∧ w'.cell? ⟨(ad275.add ((x10_3).toNat * 5)).block, (ad275.add ((x10_3).toNat * 5)).off + 1, none⟩ = some (.string ((rd_T42 l0 x10_3).f1)) ∧ w'.cell? ⟨(ad275.add ((x10_3).toNat * 5)).block, (ad275.add ((x10_3).toNat * 5)).off + 2, none⟩ = some (.int .i64 ((rd_T42 l0 x10_3).f2)) ∧ w'.cell? ⟨(ad275.add ((x10_3).toNat * 5)).block, (ad275.add ((x10_3).toNat * 5)).off + 3, none⟩ = some (.int .i64 ((rd_T42 l0 x10_3).f3)) ∧ w'.cell? ⟨(ad275.add ((x10_3).toNat * 5)).block, (ad275.add ((x10_3).toNat * 5)).off + 4, none⟩ = some (.int .i64 ((rd_T42 l0 x10_3).f4))) ∧ (Kd.S (Kd.slice 3 (Kd.int .i64)) 45 w' w.heap.size (fun _ => True) u8 x8_3) ∧ (w'.heap[s_]? = some (.cells #[.int .i64 0, .string (⟨#[]⟩ : ByteArray), .int .i64 0, .int .i64 0, .int .i64 0] 42 (0, 0))) ∧ (w.heap.size ≤ s_) ∧ (w.heap.size ≤ s_) ∧ (Below w.heap.size w w')) ?_ ?_
                  rotate_left
                  ·intro hJ5_12
                   refine join_ (σ := Nat) 4 #[true, true, true, true, true, true, true, true, true, true, true, false, false, true, false, false] (fun s_ => [(47, .agg #[.int .i64 t276, .string t277, .int .i64 t278, .int .i64 t279, .int .i64 t280]), (12, .pointer (some ⟨s_, 0, none⟩))]) (fun s_ w' => (w'.cell? (ad275.add ((x9_2).toNat * 5)) = some (.int .i64 ((rd_T42 l0 x9_2).f0)) ∧ w'.cell? ⟨(ad275.add ((x9_2).toNat * 5)).block, (ad275.add ((x9_2).toNat * 5)).off + 1, none⟩ = some (.string ((rd_T42 l0 x9_2).f1)) ∧ w'.cell? ⟨(ad275.add ((x9_2).toNat * 5)).block, (ad275.add ((x9_2).toNat * 5)).off + 2, none⟩ = some (.int .i64 ((rd_T42 l0 x9_2).f2)) ∧ w'.cell? ⟨(ad275.add ((x9_2).toNat * 5)).block, (ad275.add ((x9_2).toNat * 5)).off + 3, none⟩ = some (.int .i64 ((rd_T42 l0 x9_2).f3)) ∧ w'.cell? ⟨(ad275.add ((x9_2).toNat * 5)).block, (ad275.add ((x9_2).toNat * 5)).off + 4, none⟩ = some (.int .i64 ((rd_T42 l0 x9_2).f4)) ∧ w'.cell? (ad275.add ((x10_3).toNat * 5)) = some (.int .i64 ((rd_T42 l0 x10_3).f0)) ∧ w'.cell? ⟨(ad275.add ((x10_3).toNat * 5)).block, (ad275.add ((x10_3).toNat * 5)).off + 1, none⟩ = some (.string ((rd_T42 l0 x10_3).f1)) ∧ w'.cell? ⟨(ad275.add ((x10_3).toNat * 5)).block, (ad275.add ((x10_3).toNat * 5)).off + 2, none⟩ = some (.int .i64 ((rd_T42 l0 x10_3).f2)) ∧ w'.cell? ⟨(ad275.add ((x10_3).toNat * 5)).block, (ad275.add ((x10_3).toNat * 5)).off + 3, none⟩ = some (.int .i64 ((rd_T42 l0 x10_3).f3)) ∧ w'.cell? ⟨(ad275.add ((x10_3).toNat * 5)).block, (ad275.add ((x10_3).toNat * 5)).off + 4, none⟩ = some (.int .i64 ((rd_T42 l0 x10_3).f4))) ∧ (Kd.S (Kd.slice 3 (Kd.int .i64)) 45 w' w.heap.size (fun _ => True) u8 x8_3) ∧ (w'.heap[s_]? = some (.cells #[.int .i64 0, .string (⟨#[]⟩ : ByteArray), .int .i64 0, .int .i64 0, .int .i64 0] 42 (0, 0))) ∧ (w.heap.size ≤ s_) ∧ (w.heap.size ≤ s_) ∧ (Below w.heap.size w w')) ?_ ?_
                   rotate_left
                   ·intro hJ5_13
                    refine join_ (σ := Nat × Nat) 4 #[true, true, true, true, true, false, true, true, true, true, true, false, true, true, false, false] (fun s_ => [(11, .pointer (some ⟨s_.1, 0, none⟩)), (12, .pointer (some ⟨s_.2, 0, none⟩))]) (fun s_ w' => (w'.cell? (ad275.add ((x9_2).toNat * 5)) = some (.int .i64 ((rd_T42 l0 x9_2).f0)) ∧ w'.cell? ⟨(ad275.add ((x9_2).toNat * 5)).block, (ad275.add ((x9_2).toNat * 5)).off + 1, none⟩ = some (.string ((rd_T42 l0 x9_2).f1)) ∧ w'.cell? ⟨(ad275.add ((x9_2).toNat * 5)).block, (ad275.add ((x9_2).toNat * 5)).off + 2, none⟩ = some (.int .i64 ((rd_T42 l0 x9_2).f2)) ∧ w'.cell? ⟨(ad275.add ((x9_2).toNat * 5)).block, (ad275.add ((x9_2).toNat * 5)).off + 3, none⟩ = some (.int .i64 ((rd_T42 l0 x9_2).f3)) ∧ w'.cell? ⟨(ad275.add ((x9_2).toNat * 5)).block, (ad275.add ((x9_2).toNat * 5)).off + 4, none⟩ = some (.int .i64 ((rd_T42 l0 x9_2).f4)) ∧ w'.cell? (ad275.add ((x10_3).toNat * 5)) = some (.int .i64 ((rd_T42 l0 x10_3).f0)) ∧ w'.cell? ⟨(ad275.add ((x10_3).toNat * 5)).block, (ad275.add ((x10_3).toNat * 5)).off + 1, none⟩ = some (.string ((rd_T42 l0 x10_3).f1)) ∧ w'.cell? ⟨(ad275.add ((x10_3).toNat * 5)).block, (ad275.add ((x10_3).toNat * 5)).off + 2, none⟩ = some (.int .i64 ((rd_T42 l0 x10_3).f2)) ∧ w'.cell? ⟨(ad275.add ((x10_3).toNat * 5)).block, (ad275.add ((x10_3).toNat * 5)).off + 3, none⟩ = some (.int .i64 ((rd_T42 l0 x10_3).f3)) ∧ w'.cell? ⟨(ad275.add ((x10_3).toNat * 5)).block, (ad275.add ((x10_3).toNat * 5)).off + 4, none⟩ = some (.int .i64 ((rd_T42 l0 x10_3).f4))) ∧ (Kd.S (Kd.slice 3 (Kd.int .i64)) 45 w' w.heap.size (fun _ => True) u8 x8_3) ∧ (w'.heap[s_.1]? = some (.cells #[.int .i64 0, .string (⟨#[]⟩ : ByteArray), .int .i64 0, .int .i64 0, .int .i64 0] 42 (0, 0))) ∧ (w'.heap[s_.2]? = some (.cells #[.int .i64 0, .string (⟨#[]⟩ : ByteArray), .int .i64 0, .int .i64 0, .int .i64 0] 42 (0, 0))) ∧ (w.heap.size ≤ s_.1) ∧ (w.heap.size ≤ s_.1) ∧ (s_.2 ≠ s_.1) ∧ (s_.1 ≠ s_.2) ∧ (w.heap.size ≤ s_.2) ∧ (w.heap.size ≤ s_.2) ∧ (Below w.heap.size w w')) ?_ ?_
                    rotate_left
                    ·intro hJ12_13
                     refine join_ (σ := Unit) 5 #[true, true, true, true, true, true, true, true, true, true, true, false, false, false, false, false] (fun s_ => [(47, .agg #[.int .i64 t276, .string t277, .int .i64 t278, .int .i64 t279, .int .i64 t280])]) (fun s_ w' => (w'.cell? (ad275.add ((x9_2).toNat * 5)) = some (.int .i64 ((rd_T42 l0 x9_2).f0)) ∧ w'.cell? ⟨(ad275.add ((x9_2).toNat * 5)).block, (ad275.add ((x9_2).toNat * 5)).off + 1, none⟩ = some (.string ((rd_T42 l0 x9_2).f1)) ∧ w'.cell? ⟨(ad275.add ((x9_2).toNat * 5)).block, (ad275.add ((x9_2).toNat * 5)).off + 2, none⟩ = some (.int .i64 ((rd_T42 l0 x9_2).f2)) ∧ w'.cell? ⟨(ad275.add ((x9_2).toNat * 5)).block, (ad275.add ((x9_2).toNat * 5)).off + 3, none⟩ = some (.int .i64 ((rd_T42 l0 x9_2).f3)) ∧ w'.cell? ⟨(ad275.add ((x9_2).toNat * 5)).block, (ad275.add ((x9_2).toNat * 5)).off + 4, none⟩ = some (.int .i64 ((rd_T42 l0 x9_2).f4)) ∧ w'.cell? (ad275.add ((x10_3).toNat * 5)) = some (.int .i64 ((rd_T42 l0 x10_3).f0)) ∧ w'.cell? ⟨(ad275.add ((x10_3).toNat * 5)).block, (ad275.add ((x10_3).toNat * 5)).off + 1, none⟩ = some (.string ((rd_T42 l0 x10_3).f1)) ∧ w'.cell? ⟨(ad275.add ((x10_3).toNat * 5)).block, (ad275.add ((x10_3).toNat * 5)).off + 2, none⟩ = some (.int .i64 ((rd_T42 l0 x10_3).f2)) ∧ w'.cell? ⟨(ad275.add ((x10_3).toNat * 5)).block, (ad275.add ((x10_3).toNat * 5)).off + 3, none⟩ = some (.int .i64 ((rd_T42 l0 x10_3).f3)) ∧ w'.cell? ⟨(ad275.add ((x10_3).toNat * 5)).block, (ad275.add ((x10_3).toNat * 5)).off + 4, none⟩ = some (.int .i64 ((rd_T42 l0 x10_3).f4))) ∧ (Kd.S (Kd.slice 3 (Kd.int .i64)) 45 w' w.heap.size (fun _ => True) u8 x8_3) ∧ (Below w.heap.size w w')) ?_ ?_
                     rotate_left
                     ·intro hJ5
                      refine join_ (σ := Nat) 5 #[true, true, true, true, true, false, true, true, true, true, true, false, true, false, false, false] (fun s_ => [(11, .pointer (some ⟨s_, 0, none⟩))]) (fun s_ w' => (w'.cell? (ad275.add ((x9_2).toNat * 5)) = some (.int .i64 ((rd_T42 l0 x9_2).f0)) ∧ w'.cell? ⟨(ad275.add ((x9_2).toNat * 5)).block, (ad275.add ((x9_2).toNat * 5)).off + 1, none⟩ = some (.string ((rd_T42 l0 x9_2).f1)) ∧ w'.cell? ⟨(ad275.add ((x9_2).toNat * 5)).block, (ad275.add ((x9_2).toNat * 5)).off + 2, none⟩ = some (.int .i64 ((rd_T42 l0 x9_2).f2)) ∧ w'.cell? ⟨(ad275.add ((x9_2).toNat * 5)).block, (ad275.add ((x9_2).toNat * 5)).off + 3, none⟩ = some (.int .i64 ((rd_T42 l0 x9_2).f3)) ∧ w'.cell? ⟨(ad275.add ((x9_2).toNat * 5)).block, (ad275.add ((x9_2).toNat * 5)).off + 4, none⟩ = some (.int .i64 ((rd_T42 l0 x9_2).f4)) ∧ w'.cell? (ad275.add ((x10_3).toNat * 5)) = some (.int .i64 ((rd_T42 l0 x10_3).f0)) ∧ w'.cell? ⟨(ad275.add ((x10_3).toNat * 5)).block, (ad275.add ((x10_3).toNat * 5)).off + 1, none⟩ = some (.string ((rd_T42 l0 x10_3).f1)) ∧ w'.cell? ⟨(ad275.add ((x10_3).toNat * 5)).block, (ad275.add ((x10_3).toNat * 5)).off + 2, none⟩ = some (.int .i64 ((rd_T42 l0 x10_3).f2)) ∧ w'.cell? ⟨(ad275.add ((x10_3).toNat * 5)).block, (ad275.add ((x10_3).toNat * 5)).off + 3, none⟩ = some (.int .i64 ((rd_T42 l0 x10_3).f3)) ∧ w'.cell? ⟨(ad275.add ((x10_3).toNat * 5)).block, (ad275.add ((x10_3).toNat * 5)).off + 4, none⟩ = some (.int .i64 ((rd_T42 l0 x10_3).f4))) ∧ (Kd.S (Kd.slice 3 (Kd.int .i64)) 45 w' w.heap.size (fun _ => True) u8 x8_3) ∧ (w'.heap[s_]? = some (.cells #[.int .i64 0, .string (⟨#[]⟩ : ByteArray), .int .i64 0, .int .i64 0, .int .i64 0] 42 (0, 0))) ∧ (w.heap.size ≤ s_) ∧ (w.heap.size ≤ s_) ∧ (Below w.heap.size w w')) ?_ ?_
                      rotate_left
                      ·intro hJ12
                       refine join_ (σ := Nat) 5 #[true, true, true, true, true, false, true, true, true, true, true, false, false, true, false, false] (fun s_ => [(12, .pointer (some ⟨s_, 0, none⟩))]) (fun s_ w' => (w'.cell? (ad275.add ((x9_2).toNat * 5)) = some (.int .i64 ((rd_T42 l0 x9_2).f0)) ∧ w'.cell? ⟨(ad275.add ((x9_2).toNat * 5)).block, (ad275.add ((x9_2).toNat * 5)).off + 1, none⟩ = some (.string ((rd_T42 l0 x9_2).f1)) ∧ w'.cell? ⟨(ad275.add ((x9_2).toNat * 5)).block, (ad275.add ((x9_2).toNat * 5)).off + 2, none⟩ = some (.int .i64 ((rd_T42 l0 x9_2).f2)) ∧ w'.cell? ⟨(ad275.add ((x9_2).toNat * 5)).block, (ad275.add ((x9_2).toNat * 5)).off + 3, none⟩ = some (.int .i64 ((rd_T42 l0 x9_2).f3)) ∧ w'.cell? ⟨(ad275.add ((x9_2).toNat * 5)).block, (ad275.add ((x9_2).toNat * 5)).off + 4, none⟩ = some (.int .i64 ((rd_T42 l0 x9_2).f4)) ∧ w'.cell? (ad275.add ((x10_3).toNat * 5)) = some (.int .i64 ((rd_T42 l0 x10_3).f0)) ∧ w'.cell? ⟨(ad275.add ((x10_3).toNat * 5)).block, (ad275.add ((x10_3).toNat * 5)).off + 1, none⟩ = some (.string ((rd_T42 l0 x10_3).f1)) ∧ w'.cell? ⟨(ad275.add ((x10_3).toNat * 5)).block, (ad275.add ((x10_3).toNat * 5)).off + 2, none⟩ = some (.int .i64 ((rd_T42 l0 x10_3).f2)) ∧ w'.cell? ⟨(ad275.add ((x10_3).toNat * 5)).block, (ad275.add ((x10_3).toNat * 5)).off + 3, none⟩ = some (.int .i64 ((rd_T42 l0 x10_3).f3)) ∧ w'.cell? ⟨(ad275.add ((x10_3).toNat * 5)).block, (ad275.add ((x10_3).toNat * 5)).off + 4, none⟩ = some (.int .i64 ((rd_T42 l0 x10_3).f4))) ∧ (Kd.S (Kd.slice 3 (Kd.int .i64)) 45 w' w.heap.size (fun _ => True) u8 x8_3) ∧ (w'.heap[s_]? = some (.cells #[.int .i64 0, .string (⟨#[]⟩ : ByteArray), .int .i64 0, .int .i64 0, .int .i64 0] 42 (0, 0))) ∧ (w.heap.size ≤ s_) ∧ (w.heap.size ≤ s_) ∧ (Below w.heap.size w w')) ?_ ?_
                       rotate_left
                       ·intro hJ13
                        refine three_ (i := 5) (j := 12) (k := 13) (Ni := some 47) (Nj := some 11) (Nk := some 12) #[true, true, true, true, true, true, true, true, true, true, true, false, false, false, false, false] #[true, true, true, true, true, false, true, true, true, true, true, false, true, false, false, false] #[true, true, true, true, true, false, true, true, true, true, true, false, false, true, false, false] rfl rfl rfl rfl rfl rfl (three_of HT_.out (by kernel_rfl)) (by decide) (by decide) (by decide) (fun K hK => ?_) (fun K hK => ?_) (fun K hK => ?_)
                        ·skip
                         refine goes_ Tryd.func20 (by kernel_rfl) rfl #[.agg #[.int .i64 ((rd_T42 l0 x9_2).f0), .string ((rd_T42 l0 x9_2).f1), .int .i64 ((rd_T42 l0 x9_2).f2), .int .i64 ((rd_T42 l0 x9_2).f3), .int .i64 ((rd_T42 l0 x9_2).f4)], .int .i64 a1] (by rfl) rfl rfl (zM) ?_
                         with_reducible refine (spec_l3Faded.calls ((rd_T42 l0 x9_2).f0) ((rd_T42 l0 x9_2).f1) ((rd_T42 l0 x9_2).f2) ((rd_T42 l0 x9_2).f3) ((rd_T42 l0 x9_2).f4) a1 t276 t277 t278 t279 t280 _ A20.out).mono ?_
                         rintro e w29 ⟨rfl, hb⟩
                         refine ⟨_, rfl, ?_⟩
                         have n0_ := zA (Kd.S_below (by (with_reducible repeat (first | apply Kd.S_alloc | apply Kd.S_drewN | apply Kd.S_drew)); exact HO_8.out) hb); have n1_ := zA (below_step (zW HB) hb); clear HO_8; clear HB; have HO_8 := n0_; have HB := n1_; clear n0_ n1_; (try clear hb); (try clear hb2); (try clear hk); (try clear hi)
                         refine hK.out _ _ ⟨((HB.out.cell (World.block_lt_of_cell? w _ hw275_0)).trans hw275_0), ((HB.out.cell (World.block_lt_of_cell? w _ hw275_1)).trans hw275_1), ((HB.out.cell (World.block_lt_of_cell? w _ hw275_2)).trans hw275_2), ((HB.out.cell (World.block_lt_of_cell? w _ hw275_3)).trans hw275_3), ((HB.out.cell (World.block_lt_of_cell? w _ hw275_4)).trans hw275_4), ((HB.out.cell (World.block_lt_of_cell? w _ hw281_0)).trans hw281_0), ((HB.out.cell (World.block_lt_of_cell? w _ hw281_1)).trans hw281_1), ((HB.out.cell (World.block_lt_of_cell? w _ hw281_2)).trans hw281_2), ((HB.out.cell (World.block_lt_of_cell? w _ hw281_3)).trans hw281_3), ((HB.out.cell (World.block_lt_of_cell? w _ hw281_4)).trans hw281_4)⟩ (fun hHeld => ?_)
                         clear hK K
                         refine norm_ (a' := ?_) ?_ ?_
                         rotate_left
                         ·show Act.put _ (some 47) _ = _
                          simp only [Act.put, List.setIfInBounds_toArray, List.set_cons_zero, List.set_cons_succ, i64_w, i32_w]
                          rfl
                         exact norm_ (by first | (simp only [putAll, Act.put, List.setIfInBounds_toArray, List.set_cons_zero, List.set_cons_succ]; done) | (simp only [putAll, Act.put, List.setIfInBounds_toArray, List.set_cons_zero, List.set_cons_succ]; rfl)) (hJ5 () _ ⟨hHeld, (by (with_reducible repeat (first | apply Kd.S_alloc | apply Kd.S_drewN | apply Kd.S_drew)); exact HO_8.out), (zW HB)⟩)
                        ·skip
                         refine box_step ?hg (N := 11) ?hd (cs := #[.int .i64 0, .string (⟨#[]⟩ : ByteArray), .int .i64 0, .int .i64 0, .int .i64 0]) (t := 42) ?hr ?_; (case hd => rfl); (case hg => rfl); (case hr => first | (go_simp; done) | (go_simp; rfl))
                         intro gb287 hg w29 hbox hb
                         have n0_ := zA (Kd.S_below (by (with_reducible repeat (first | apply Kd.S_alloc | apply Kd.S_drewN | apply Kd.S_drew)); exact HO_8.out) hb); have n1_ := zA (below_step (zW HB) hb); have n2_ := zA (hbox); have n3_ := zA ((by rw [hg]; exact (below_size (zW HB)) : w.heap.size ≤ gb287)); have n4_ := zA ((by rw [hg]; exact (below_size (zW HB)) : w.heap.size ≤ gb287)); clear HO_8; clear HB; have HO_8 := n0_; have HB := n1_; have BK287 := n2_; have GW287 := n3_; have GE287 := n4_; clear n0_ n1_ n2_ n3_ n4_; clear hb hbox hg
                         refine hK.out _ _ ⟨((HB.out.cell (World.block_lt_of_cell? w _ hw275_0)).trans hw275_0), ((HB.out.cell (World.block_lt_of_cell? w _ hw275_1)).trans hw275_1), ((HB.out.cell (World.block_lt_of_cell? w _ hw275_2)).trans hw275_2), ((HB.out.cell (World.block_lt_of_cell? w _ hw275_3)).trans hw275_3), ((HB.out.cell (World.block_lt_of_cell? w _ hw275_4)).trans hw275_4), ((HB.out.cell (World.block_lt_of_cell? w _ hw281_0)).trans hw281_0), ((HB.out.cell (World.block_lt_of_cell? w _ hw281_1)).trans hw281_1), ((HB.out.cell (World.block_lt_of_cell? w _ hw281_2)).trans hw281_2), ((HB.out.cell (World.block_lt_of_cell? w _ hw281_3)).trans hw281_3), ((HB.out.cell (World.block_lt_of_cell? w _ hw281_4)).trans hw281_4)⟩ (fun hHeld => ?_)
                         clear hK K
                         refine norm_ (a' := ?_) ?_ ?_
                         rotate_left
                         ·show Act.put _ (some 11) _ = _
                          simp only [Act.put, List.setIfInBounds_toArray, List.set_cons_zero, List.set_cons_succ, i64_w, i32_w]
                          rfl
                         exact norm_ (by first | (simp only [putAll, Act.put, List.setIfInBounds_toArray, List.set_cons_zero, List.set_cons_succ]; done) | (simp only [putAll, Act.put, List.setIfInBounds_toArray, List.set_cons_zero, List.set_cons_succ]; rfl)) (hJ12 (gb287) _ ⟨hHeld, (by (with_reducible repeat (first | apply Kd.S_alloc | apply Kd.S_drewN | apply Kd.S_drew)); exact HO_8.out), (zB BK287), GW287.out, GE287.out, (zW1 HB GE287)⟩)
                        ·skip
                         refine box_step ?hg (N := 12) ?hd (cs := #[.int .i64 0, .string (⟨#[]⟩ : ByteArray), .int .i64 0, .int .i64 0, .int .i64 0]) (t := 42) ?hr ?_; (case hd => rfl); (case hg => rfl); (case hr => first | (go_simp; done) | (go_simp; rfl))
                         intro gb288 hg w29 hbox hb
                         have n0_ := zA (Kd.S_below (by (with_reducible repeat (first | apply Kd.S_alloc | apply Kd.S_drewN | apply Kd.S_drew)); exact HO_8.out) hb); have n1_ := zA (below_step (zW HB) hb); have n2_ := zA (hbox); have n3_ := zA ((by rw [hg]; exact (below_size (zW HB)) : w.heap.size ≤ gb288)); have n4_ := zA ((by rw [hg]; exact (below_size (zW HB)) : w.heap.size ≤ gb288)); clear HO_8; clear HB; have HO_8 := n0_; have HB := n1_; have BK288 := n2_; have GW288 := n3_; have GE288 := n4_; clear n0_ n1_ n2_ n3_ n4_; clear hb hbox hg
                         refine hK.out _ _ ⟨((HB.out.cell (World.block_lt_of_cell? w _ hw275_0)).trans hw275_0), ((HB.out.cell (World.block_lt_of_cell? w _ hw275_1)).trans hw275_1), ((HB.out.cell (World.block_lt_of_cell? w _ hw275_2)).trans hw275_2), ((HB.out.cell (World.block_lt_of_cell? w _ hw275_3)).trans hw275_3), ((HB.out.cell (World.block_lt_of_cell? w _ hw275_4)).trans hw275_4), ((HB.out.cell (World.block_lt_of_cell? w _ hw281_0)).trans hw281_0), ((HB.out.cell (World.block_lt_of_cell? w _ hw281_1)).trans hw281_1), ((HB.out.cell (World.block_lt_of_cell? w _ hw281_2)).trans hw281_2), ((HB.out.cell (World.block_lt_of_cell? w _ hw281_3)).trans hw281_3), ((HB.out.cell (World.block_lt_of_cell? w _ hw281_4)).trans hw281_4)⟩ (fun hHeld => ?_)
                         clear hK K
                         refine norm_ (a' := ?_) ?_ ?_
                         rotate_left
                         ·show Act.put _ (some 12) _ = _
                          simp only [Act.put, List.setIfInBounds_toArray, List.set_cons_zero, List.set_cons_succ, i64_w, i32_w]
                          rfl
                         exact norm_ (by first | (simp only [putAll, Act.put, List.setIfInBounds_toArray, List.set_cons_zero, List.set_cons_succ]; done) | (simp only [putAll, Act.put, List.setIfInBounds_toArray, List.set_cons_zero, List.set_cons_succ]; rfl)) (hJ13 (gb288) _ ⟨hHeld, (by (with_reducible repeat (first | apply Kd.S_alloc | apply Kd.S_drewN | apply Kd.S_drew)); exact HO_8.out), (zB BK288), GW288.out, GE288.out, (zW1 HB GE288)⟩)
                       ·skip
                        rintro gb288 w30 ⟨hS_, h0_, h1_, h2_, h3_, h4_⟩
                        have n0_ : Aside0 (Kd.S (Kd.slice 3 (Kd.int .i64)) 45 w30 w.heap.size (fun _ => True) u8 x8_3) := ⟨h0_⟩; have n1_ : Aside0 (w30.heap[gb288]? = some (.cells #[.int .i64 0, .string (⟨#[]⟩ : ByteArray), .int .i64 0, .int .i64 0, .int .i64 0] 42 (0, 0))) := ⟨h1_⟩; have n2_ : Aside0 (w.heap.size ≤ gb288) := ⟨h2_⟩; have n3_ : Aside0 (w.heap.size ≤ gb288) := ⟨h3_⟩; have n4_ : Aside0 (Below w.heap.size w w30) := ⟨h4_⟩; clear HO_8; clear HB; clear h0_ h1_ h2_ h3_ h4_; have HO_8 := n0_; have BK288 := n1_; have GW288 := n2_; have GE288 := n3_; have HB := n4_; clear n0_ n1_ n2_ n3_ n4_; have hHeld : w30.cell? (ad275.add ((x9_2).toNat * 5)) = some (.int .i64 ((rd_T42 l0 x9_2).f0)) ∧ w30.cell? ⟨(ad275.add ((x9_2).toNat * 5)).block, (ad275.add ((x9_2).toNat * 5)).off + 1, none⟩ = some (.string ((rd_T42 l0 x9_2).f1)) ∧ w30.cell? ⟨(ad275.add ((x9_2).toNat * 5)).block, (ad275.add ((x9_2).toNat * 5)).off + 2, none⟩ = some (.int .i64 ((rd_T42 l0 x9_2).f2)) ∧ w30.cell? ⟨(ad275.add ((x9_2).toNat * 5)).block, (ad275.add ((x9_2).toNat * 5)).off + 3, none⟩ = some (.int .i64 ((rd_T42 l0 x9_2).f3)) ∧ w30.cell? ⟨(ad275.add ((x9_2).toNat * 5)).block, (ad275.add ((x9_2).toNat * 5)).off + 4, none⟩ = some (.int .i64 ((rd_T42 l0 x9_2).f4)) ∧ w30.cell? (ad275.add ((x10_3).toNat * 5)) = some (.int .i64 ((rd_T42 l0 x10_3).f0)) ∧ w30.cell? ⟨(ad275.add ((x10_3).toNat * 5)).block, (ad275.add ((x10_3).toNat * 5)).off + 1, none⟩ = some (.string ((rd_T42 l0 x10_3).f1)) ∧ w30.cell? ⟨(ad275.add ((x10_3).toNat * 5)).block, (ad275.add ((x10_3).toNat * 5)).off + 2, none⟩ = some (.int .i64 ((rd_T42 l0 x10_3).f2)) ∧ w30.cell? ⟨(ad275.add ((x10_3).toNat * 5)).block, (ad275.add ((x10_3).toNat * 5)).off + 3, none⟩ = some (.int .i64 ((rd_T42 l0 x10_3).f3)) ∧ w30.cell? ⟨(ad275.add ((x10_3).toNat * 5)).block, (ad275.add ((x10_3).toNat * 5)).off + 4, none⟩ = some (.int .i64 ((rd_T42 l0 x10_3).f4)) := hS_
                        refine norm_ (a' := ?_) ?_ ?_
                        rotate_left
                        ·simp only [putAll, Act.put, List.setIfInBounds_toArray, List.set_cons_zero, List.set_cons_succ]
                         rfl
                        refine two_ (i := 5) (j := 12) (Ni := some 47) (Nj := some 11) #[true, true, true, true, true, true, true, true, true, true, true, false, false, true, false, false] #[true, true, true, true, true, false, true, true, true, true, true, false, true, true, false, false] rfl rfl rfl rfl (two_of HT_.out (by kernel_rfl)) (by decide) (by decide) (fun K hK => ?_) (fun K hK => ?_)
                        ·skip
                         refine goes_ Tryd.func20 (by kernel_rfl) rfl #[.agg #[.int .i64 ((rd_T42 l0 x9_2).f0), .string ((rd_T42 l0 x9_2).f1), .int .i64 ((rd_T42 l0 x9_2).f2), .int .i64 ((rd_T42 l0 x9_2).f3), .int .i64 ((rd_T42 l0 x9_2).f4)], .int .i64 a1] (by rfl) rfl rfl (zM) ?_
                         with_reducible refine (spec_l3Faded.calls ((rd_T42 l0 x9_2).f0) ((rd_T42 l0 x9_2).f1) ((rd_T42 l0 x9_2).f2) ((rd_T42 l0 x9_2).f3) ((rd_T42 l0 x9_2).f4) a1 t276 t277 t278 t279 t280 _ A20.out).mono ?_
                         rintro e w31 ⟨rfl, hb⟩
                         refine ⟨_, rfl, ?_⟩
                         have n0_ := zA (Kd.S_below (by (with_reducible repeat (first | apply Kd.S_alloc | apply Kd.S_drewN | apply Kd.S_drew)); exact HO_8.out) hb); have n1_ := zA (blk_below (g := gb288) (o := .cells #[.int .i64 0, .string (⟨#[]⟩ : ByteArray), .int .i64 0, .int .i64 0, .int .i64 0] 42 (0, 0)) (zB BK288) hb); have n2_ := zA (below_step (zW1 HB GE288) hb); clear HO_8; clear BK288; clear HB; have HO_8 := n0_; have BK288 := n1_; have HB := n2_; clear n0_ n1_ n2_; (try clear hb); (try clear hb2); (try clear hk); (try clear hi)
                         refine hK.out _ _ ⟨((HB.out.cell (World.block_lt_of_cell? w _ hw275_0)).trans hw275_0), ((HB.out.cell (World.block_lt_of_cell? w _ hw275_1)).trans hw275_1), ((HB.out.cell (World.block_lt_of_cell? w _ hw275_2)).trans hw275_2), ((HB.out.cell (World.block_lt_of_cell? w _ hw275_3)).trans hw275_3), ((HB.out.cell (World.block_lt_of_cell? w _ hw275_4)).trans hw275_4), ((HB.out.cell (World.block_lt_of_cell? w _ hw281_0)).trans hw281_0), ((HB.out.cell (World.block_lt_of_cell? w _ hw281_1)).trans hw281_1), ((HB.out.cell (World.block_lt_of_cell? w _ hw281_2)).trans hw281_2), ((HB.out.cell (World.block_lt_of_cell? w _ hw281_3)).trans hw281_3), ((HB.out.cell (World.block_lt_of_cell? w _ hw281_4)).trans hw281_4)⟩ (fun hHeld => ?_)
                         clear hK K
                         refine norm_ (a' := ?_) ?_ ?_
                         rotate_left
                         ·show Act.put _ (some 47) _ = _
                          simp only [Act.put, List.setIfInBounds_toArray, List.set_cons_zero, List.set_cons_succ, i64_w, i32_w]
                          rfl
                         exact norm_ (by first | (simp only [putAll, Act.put, List.setIfInBounds_toArray, List.set_cons_zero, List.set_cons_succ]; done) | (simp only [putAll, Act.put, List.setIfInBounds_toArray, List.set_cons_zero, List.set_cons_succ]; rfl)) (hJ5_13 (gb288) _ ⟨hHeld, (by (with_reducible repeat (first | apply Kd.S_alloc | apply Kd.S_drewN | apply Kd.S_drew)); exact HO_8.out), (zB BK288), GW288.out, GE288.out, (zW1 HB GE288)⟩)
                        ·skip
                         refine box_step ?hg (N := 11) ?hd (cs := #[.int .i64 0, .string (⟨#[]⟩ : ByteArray), .int .i64 0, .int .i64 0, .int .i64 0]) (t := 42) ?hr ?_; (case hd => rfl); (case hg => rfl); (case hr => first | (go_simp; done) | (go_simp; rfl))
                         intro gb287 hg w31 hbox hb
                         have n0_ := zA (Kd.S_below (by (with_reducible repeat (first | apply Kd.S_alloc | apply Kd.S_drewN | apply Kd.S_drew)); exact HO_8.out) hb); have n1_ := zA (blk_below (g := gb288) (o := .cells #[.int .i64 0, .string (⟨#[]⟩ : ByteArray), .int .i64 0, .int .i64 0, .int .i64 0] 42 (0, 0)) (zB BK288) hb); have n2_ := zA (below_step (zW1 HB GE288) hb); have n3_ := zA (hbox); have n4_ := zA ((by rw [hg]; exact (below_size (zW1 HB GE288)) : w.heap.size ≤ gb287)); have n5_ := zA ((by rw [hg]; exact (below_size (zW1 HB GE288)) : w.heap.size ≤ gb287)); have n6_ := zA ((by rw [hg]; exact Nat.ne_of_lt (blk_lt (g := gb288) (o := .cells #[.int .i64 0, .string (⟨#[]⟩ : ByteArray), .int .i64 0, .int .i64 0, .int .i64 0] 42 (0, 0)) (zB BK288)) : gb288 ≠ gb287)); have n7_ := zA ((by rw [hg]; exact Nat.ne_of_gt (blk_lt (g := gb288) (o := .cells #[.int .i64 0, .string (⟨#[]⟩ : ByteArray), .int .i64 0, .int .i64 0, .int .i64 0] 42 (0, 0)) (zB BK288)) : gb287 ≠ gb288)); clear HO_8; clear BK288; clear HB; have HO_8 := n0_; have BK288 := n1_; have HB := n2_; have BK287 := n3_; have GW287 := n4_; have GE287 := n5_; have NB288_287 := n6_; have NB287_288 := n7_; clear n0_ n1_ n2_ n3_ n4_ n5_ n6_ n7_; clear hb hbox hg
                         refine hK.out _ _ ⟨((HB.out.cell (World.block_lt_of_cell? w _ hw275_0)).trans hw275_0), ((HB.out.cell (World.block_lt_of_cell? w _ hw275_1)).trans hw275_1), ((HB.out.cell (World.block_lt_of_cell? w _ hw275_2)).trans hw275_2), ((HB.out.cell (World.block_lt_of_cell? w _ hw275_3)).trans hw275_3), ((HB.out.cell (World.block_lt_of_cell? w _ hw275_4)).trans hw275_4), ((HB.out.cell (World.block_lt_of_cell? w _ hw281_0)).trans hw281_0), ((HB.out.cell (World.block_lt_of_cell? w _ hw281_1)).trans hw281_1), ((HB.out.cell (World.block_lt_of_cell? w _ hw281_2)).trans hw281_2), ((HB.out.cell (World.block_lt_of_cell? w _ hw281_3)).trans hw281_3), ((HB.out.cell (World.block_lt_of_cell? w _ hw281_4)).trans hw281_4)⟩ (fun hHeld => ?_)
                         clear hK K
                         refine norm_ (a' := ?_) ?_ ?_
                         rotate_left
                         ·show Act.put _ (some 11) _ = _
                          simp only [Act.put, List.setIfInBounds_toArray, List.set_cons_zero, List.set_cons_succ, i64_w, i32_w]
                          rfl
                         exact norm_ (by first | (simp only [putAll, Act.put, List.setIfInBounds_toArray, List.set_cons_zero, List.set_cons_succ]; done) | (simp only [putAll, Act.put, List.setIfInBounds_toArray, List.set_cons_zero, List.set_cons_succ]; rfl)) (hJ12_13 (gb287, gb288) _ ⟨hHeld, (by (with_reducible repeat (first | apply Kd.S_alloc | apply Kd.S_drewN | apply Kd.S_drew)); exact HO_8.out), (zB BK287), (zB BK288), GW287.out, GE287.out, NB288_287.out, NB287_288.out, GW288.out, GE288.out, (zW2 HB GE288 GE287)⟩)
                      ·skip
                       rintro gb287 w30 ⟨hS_, h0_, h1_, h2_, h3_, h4_⟩
                       have n0_ : Aside0 (Kd.S (Kd.slice 3 (Kd.int .i64)) 45 w30 w.heap.size (fun _ => True) u8 x8_3) := ⟨h0_⟩; have n1_ : Aside0 (w30.heap[gb287]? = some (.cells #[.int .i64 0, .string (⟨#[]⟩ : ByteArray), .int .i64 0, .int .i64 0, .int .i64 0] 42 (0, 0))) := ⟨h1_⟩; have n2_ : Aside0 (w.heap.size ≤ gb287) := ⟨h2_⟩; have n3_ : Aside0 (w.heap.size ≤ gb287) := ⟨h3_⟩; have n4_ : Aside0 (Below w.heap.size w w30) := ⟨h4_⟩; clear HO_8; clear HB; clear h0_ h1_ h2_ h3_ h4_; have HO_8 := n0_; have BK287 := n1_; have GW287 := n2_; have GE287 := n3_; have HB := n4_; clear n0_ n1_ n2_ n3_ n4_; have hHeld : w30.cell? (ad275.add ((x9_2).toNat * 5)) = some (.int .i64 ((rd_T42 l0 x9_2).f0)) ∧ w30.cell? ⟨(ad275.add ((x9_2).toNat * 5)).block, (ad275.add ((x9_2).toNat * 5)).off + 1, none⟩ = some (.string ((rd_T42 l0 x9_2).f1)) ∧ w30.cell? ⟨(ad275.add ((x9_2).toNat * 5)).block, (ad275.add ((x9_2).toNat * 5)).off + 2, none⟩ = some (.int .i64 ((rd_T42 l0 x9_2).f2)) ∧ w30.cell? ⟨(ad275.add ((x9_2).toNat * 5)).block, (ad275.add ((x9_2).toNat * 5)).off + 3, none⟩ = some (.int .i64 ((rd_T42 l0 x9_2).f3)) ∧ w30.cell? ⟨(ad275.add ((x9_2).toNat * 5)).block, (ad275.add ((x9_2).toNat * 5)).off + 4, none⟩ = some (.int .i64 ((rd_T42 l0 x9_2).f4)) ∧ w30.cell? (ad275.add ((x10_3).toNat * 5)) = some (.int .i64 ((rd_T42 l0 x10_3).f0)) ∧ w30.cell? ⟨(ad275.add ((x10_3).toNat * 5)).block, (ad275.add ((x10_3).toNat * 5)).off + 1, none⟩ = some (.string ((rd_T42 l0 x10_3).f1)) ∧ w30.cell? ⟨(ad275.add ((x10_3).toNat * 5)).block, (ad275.add ((x10_3).toNat * 5)).off + 2, none⟩ = some (.int .i64 ((rd_T42 l0 x10_3).f2)) ∧ w30.cell? ⟨(ad275.add ((x10_3).toNat * 5)).block, (ad275.add ((x10_3).toNat * 5)).off + 3, none⟩ = some (.int .i64 ((rd_T42 l0 x10_3).f3)) ∧ w30.cell? ⟨(ad275.add ((x10_3).toNat * 5)).block, (ad275.add ((x10_3).toNat * 5)).off + 4, none⟩ = some (.int .i64 ((rd_T42 l0 x10_3).f4)) := hS_
                       refine norm_ (a' := ?_) ?_ ?_
                       rotate_left
                       ·simp only [putAll, Act.put, List.setIfInBounds_toArray, List.set_cons_zero, List.set_cons_succ]
                        rfl
                       refine two_ (i := 5) (j := 13) (Ni := some 47) (Nj := some 12) #[true, true, true, true, true, true, true, true, true, true, true, false, true, false, false, false] #[true, true, true, true, true, false, true, true, true, true, true, false, true, true, false, false] rfl rfl rfl rfl (two_of HT_.out (by kernel_rfl)) (by decide) (by decide) (fun K hK => ?_) (fun K hK => ?_)
                       ·skip
                        refine goes_ Tryd.func20 (by kernel_rfl) rfl #[.agg #[.int .i64 ((rd_T42 l0 x9_2).f0), .string ((rd_T42 l0 x9_2).f1), .int .i64 ((rd_T42 l0 x9_2).f2), .int .i64 ((rd_T42 l0 x9_2).f3), .int .i64 ((rd_T42 l0 x9_2).f4)], .int .i64 a1] (by rfl) rfl rfl (zM) ?_
                        with_reducible refine (spec_l3Faded.calls ((rd_T42 l0 x9_2).f0) ((rd_T42 l0 x9_2).f1) ((rd_T42 l0 x9_2).f2) ((rd_T42 l0 x9_2).f3) ((rd_T42 l0 x9_2).f4) a1 t276 t277 t278 t279 t280 _ A20.out).mono ?_
                        rintro e w31 ⟨rfl, hb⟩
                        refine ⟨_, rfl, ?_⟩
                        have n0_ := zA (Kd.S_below (by (with_reducible repeat (first | apply Kd.S_alloc | apply Kd.S_drewN | apply Kd.S_drew)); exact HO_8.out) hb); have n1_ := zA (blk_below (g := gb287) (o := .cells #[.int .i64 0, .string (⟨#[]⟩ : ByteArray), .int .i64 0, .int .i64 0, .int .i64 0] 42 (0, 0)) (zB BK287) hb); have n2_ := zA (below_step (zW1 HB GE287) hb); clear HO_8; clear BK287; clear HB; have HO_8 := n0_; have BK287 := n1_; have HB := n2_; clear n0_ n1_ n2_; (try clear hb); (try clear hb2); (try clear hk); (try clear hi)
                        refine hK.out _ _ ⟨((HB.out.cell (World.block_lt_of_cell? w _ hw275_0)).trans hw275_0), ((HB.out.cell (World.block_lt_of_cell? w _ hw275_1)).trans hw275_1), ((HB.out.cell (World.block_lt_of_cell? w _ hw275_2)).trans hw275_2), ((HB.out.cell (World.block_lt_of_cell? w _ hw275_3)).trans hw275_3), ((HB.out.cell (World.block_lt_of_cell? w _ hw275_4)).trans hw275_4), ((HB.out.cell (World.block_lt_of_cell? w _ hw281_0)).trans hw281_0), ((HB.out.cell (World.block_lt_of_cell? w _ hw281_1)).trans hw281_1), ((HB.out.cell (World.block_lt_of_cell? w _ hw281_2)).trans hw281_2), ((HB.out.cell (World.block_lt_of_cell? w _ hw281_3)).trans hw281_3), ((HB.out.cell (World.block_lt_of_cell? w _ hw281_4)).trans hw281_4)⟩ (fun hHeld => ?_)
                        clear hK K
                        refine norm_ (a' := ?_) ?_ ?_
                        rotate_left
                        ·show Act.put _ (some 47) _ = _
                         simp only [Act.put, List.setIfInBounds_toArray, List.set_cons_zero, List.set_cons_succ, i64_w, i32_w]
                         rfl
                        exact norm_ (by first | (simp only [putAll, Act.put, List.setIfInBounds_toArray, List.set_cons_zero, List.set_cons_succ]; done) | (simp only [putAll, Act.put, List.setIfInBounds_toArray, List.set_cons_zero, List.set_cons_succ]; rfl)) (hJ5_12 (gb287) _ ⟨hHeld, (by (with_reducible repeat (first | apply Kd.S_alloc | apply Kd.S_drewN | apply Kd.S_drew)); exact HO_8.out), (zB BK287), GW287.out, GE287.out, (zW1 HB GE287)⟩)
                       ·skip
                        refine box_step ?hg (N := 12) ?hd (cs := #[.int .i64 0, .string (⟨#[]⟩ : ByteArray), .int .i64 0, .int .i64 0, .int .i64 0]) (t := 42) ?hr ?_; (case hd => rfl); (case hg => rfl); (case hr => first | (go_simp; done) | (go_simp; rfl))
                        intro gb288 hg w31 hbox hb
                        have n0_ := zA (Kd.S_below (by (with_reducible repeat (first | apply Kd.S_alloc | apply Kd.S_drewN | apply Kd.S_drew)); exact HO_8.out) hb); have n1_ := zA (blk_below (g := gb287) (o := .cells #[.int .i64 0, .string (⟨#[]⟩ : ByteArray), .int .i64 0, .int .i64 0, .int .i64 0] 42 (0, 0)) (zB BK287) hb); have n2_ := zA (below_step (zW1 HB GE287) hb); have n3_ := zA (hbox); have n4_ := zA ((by rw [hg]; exact (below_size (zW1 HB GE287)) : w.heap.size ≤ gb288)); have n5_ := zA ((by rw [hg]; exact (below_size (zW1 HB GE287)) : w.heap.size ≤ gb288)); have n6_ := zA ((by rw [hg]; exact Nat.ne_of_lt (blk_lt (g := gb287) (o := .cells #[.int .i64 0, .string (⟨#[]⟩ : ByteArray), .int .i64 0, .int .i64 0, .int .i64 0] 42 (0, 0)) (zB BK287)) : gb287 ≠ gb288)); have n7_ := zA ((by rw [hg]; exact Nat.ne_of_gt (blk_lt (g := gb287) (o := .cells #[.int .i64 0, .string (⟨#[]⟩ : ByteArray), .int .i64 0, .int .i64 0, .int .i64 0] 42 (0, 0)) (zB BK287)) : gb288 ≠ gb287)); clear HO_8; clear BK287; clear HB; have HO_8 := n0_; have BK287 := n1_; have HB := n2_; have BK288 := n3_; have GW288 := n4_; have GE288 := n5_; have NB287_288 := n6_; have NB288_287 := n7_; clear n0_ n1_ n2_ n3_ n4_ n5_ n6_ n7_; clear hb hbox hg
                        refine hK.out _ _ ⟨((HB.out.cell (World.block_lt_of_cell? w _ hw275_0)).trans hw275_0), ((HB.out.cell (World.block_lt_of_cell? w _ hw275_1)).trans hw275_1), ((HB.out.cell (World.block_lt_of_cell? w _ hw275_2)).trans hw275_2), ((HB.out.cell (World.block_lt_of_cell? w _ hw275_3)).trans hw275_3), ((HB.out.cell (World.block_lt_of_cell? w _ hw275_4)).trans hw275_4), ((HB.out.cell (World.block_lt_of_cell? w _ hw281_0)).trans hw281_0), ((HB.out.cell (World.block_lt_of_cell? w _ hw281_1)).trans hw281_1), ((HB.out.cell (World.block_lt_of_cell? w _ hw281_2)).trans hw281_2), ((HB.out.cell (World.block_lt_of_cell? w _ hw281_3)).trans hw281_3), ((HB.out.cell (World.block_lt_of_cell? w _ hw281_4)).trans hw281_4)⟩ (fun hHeld => ?_)
                        clear hK K
                        refine norm_ (a' := ?_) ?_ ?_
                        rotate_left
                        ·show Act.put _ (some 12) _ = _
                         simp only [Act.put, List.setIfInBounds_toArray, List.set_cons_zero, List.set_cons_succ, i64_w, i32_w]
                         rfl
                        exact norm_ (by first | (simp only [putAll, Act.put, List.setIfInBounds_toArray, List.set_cons_zero, List.set_cons_succ]; done) | (simp only [putAll, Act.put, List.setIfInBounds_toArray, List.set_cons_zero, List.set_cons_succ]; rfl)) (hJ12_13 (gb287, gb288) _ ⟨hHeld, (by (with_reducible repeat (first | apply Kd.S_alloc | apply Kd.S_drewN | apply Kd.S_drew)); exact HO_8.out), (zB BK287), (zB BK288), GW287.out, GE287.out, NB288_287.out, NB287_288.out, GW288.out, GE288.out, (zW2 HB GE287 GE288)⟩)
                     ·skip
                      rintro _ w30 ⟨hS_, h0_, h1_⟩
                      have n0_ : Aside0 (Kd.S (Kd.slice 3 (Kd.int .i64)) 45 w30 w.heap.size (fun _ => True) u8 x8_3) := ⟨h0_⟩; have n1_ : Aside0 (Below w.heap.size w w30) := ⟨h1_⟩; clear HO_8; clear HB; clear h0_ h1_; have HO_8 := n0_; have HB := n1_; clear n0_ n1_; have hHeld : w30.cell? (ad275.add ((x9_2).toNat * 5)) = some (.int .i64 ((rd_T42 l0 x9_2).f0)) ∧ w30.cell? ⟨(ad275.add ((x9_2).toNat * 5)).block, (ad275.add ((x9_2).toNat * 5)).off + 1, none⟩ = some (.string ((rd_T42 l0 x9_2).f1)) ∧ w30.cell? ⟨(ad275.add ((x9_2).toNat * 5)).block, (ad275.add ((x9_2).toNat * 5)).off + 2, none⟩ = some (.int .i64 ((rd_T42 l0 x9_2).f2)) ∧ w30.cell? ⟨(ad275.add ((x9_2).toNat * 5)).block, (ad275.add ((x9_2).toNat * 5)).off + 3, none⟩ = some (.int .i64 ((rd_T42 l0 x9_2).f3)) ∧ w30.cell? ⟨(ad275.add ((x9_2).toNat * 5)).block, (ad275.add ((x9_2).toNat * 5)).off + 4, none⟩ = some (.int .i64 ((rd_T42 l0 x9_2).f4)) ∧ w30.cell? (ad275.add ((x10_3).toNat * 5)) = some (.int .i64 ((rd_T42 l0 x10_3).f0)) ∧ w30.cell? ⟨(ad275.add ((x10_3).toNat * 5)).block, (ad275.add ((x10_3).toNat * 5)).off + 1, none⟩ = some (.string ((rd_T42 l0 x10_3).f1)) ∧ w30.cell? ⟨(ad275.add ((x10_3).toNat * 5)).block, (ad275.add ((x10_3).toNat * 5)).off + 2, none⟩ = some (.int .i64 ((rd_T42 l0 x10_3).f2)) ∧ w30.cell? ⟨(ad275.add ((x10_3).toNat * 5)).block, (ad275.add ((x10_3).toNat * 5)).off + 3, none⟩ = some (.int .i64 ((rd_T42 l0 x10_3).f3)) ∧ w30.cell? ⟨(ad275.add ((x10_3).toNat * 5)).block, (ad275.add ((x10_3).toNat * 5)).off + 4, none⟩ = some (.int .i64 ((rd_T42 l0 x10_3).f4)) := hS_
                      refine norm_ (a' := ?_) ?_ ?_
                      rotate_left
                      ·simp only [putAll, Act.put, List.setIfInBounds_toArray, List.set_cons_zero, List.set_cons_succ]
                       rfl
                      refine three_ (i := 11) (j := 12) (k := 13) (Ni := some 53) (Nj := some 11) (Nk := some 12) #[true, true, true, true, true, true, true, true, true, true, true, true, false, false, false, false] #[true, true, true, true, true, true, true, true, true, true, true, false, true, false, false, false] #[true, true, true, true, true, true, true, true, true, true, true, false, false, true, false, false] rfl rfl rfl rfl rfl rfl (three_of HT_.out (by kernel_rfl)) (by decide) (by decide) (by decide) (fun K hK => ?_) (fun K hK => ?_) (fun K hK => ?_)
                      ·skip
                       refine goes_ Tryd.func20 (by kernel_rfl) rfl #[.agg #[.int .i64 ((rd_T42 l0 x10_3).f0), .string ((rd_T42 l0 x10_3).f1), .int .i64 ((rd_T42 l0 x10_3).f2), .int .i64 ((rd_T42 l0 x10_3).f3), .int .i64 ((rd_T42 l0 x10_3).f4)], .int .i64 a1] (by rfl) rfl rfl (zM) ?_
                       with_reducible refine (spec_l3Faded.calls ((rd_T42 l0 x10_3).f0) ((rd_T42 l0 x10_3).f1) ((rd_T42 l0 x10_3).f2) ((rd_T42 l0 x10_3).f3) ((rd_T42 l0 x10_3).f4) a1 t282 t283 t284 t285 t286 _ A22.out).mono ?_
                       rintro e w31 ⟨rfl, hb⟩
                       refine ⟨_, rfl, ?_⟩
                       have n0_ := zA (Kd.S_below (by (with_reducible repeat (first | apply Kd.S_alloc | apply Kd.S_drewN | apply Kd.S_drew)); exact HO_8.out) hb); have n1_ := zA (below_step (zW HB) hb); clear HO_8; clear HB; have HO_8 := n0_; have HB := n1_; clear n0_ n1_; (try clear hb); (try clear hb2); (try clear hk); (try clear hi)
                       refine hK.out _ _ ⟨((HB.out.cell (World.block_lt_of_cell? w _ hw275_0)).trans hw275_0), ((HB.out.cell (World.block_lt_of_cell? w _ hw275_1)).trans hw275_1), ((HB.out.cell (World.block_lt_of_cell? w _ hw275_2)).trans hw275_2), ((HB.out.cell (World.block_lt_of_cell? w _ hw275_3)).trans hw275_3), ((HB.out.cell (World.block_lt_of_cell? w _ hw275_4)).trans hw275_4), ((HB.out.cell (World.block_lt_of_cell? w _ hw281_0)).trans hw281_0), ((HB.out.cell (World.block_lt_of_cell? w _ hw281_1)).trans hw281_1), ((HB.out.cell (World.block_lt_of_cell? w _ hw281_2)).trans hw281_2), ((HB.out.cell (World.block_lt_of_cell? w _ hw281_3)).trans hw281_3), ((HB.out.cell (World.block_lt_of_cell? w _ hw281_4)).trans hw281_4)⟩ (fun hHeld => ?_)
                       clear hK K
                       refine norm_ (a' := ?_) ?_ ?_
                       rotate_left
                       ·show Act.put _ (some 53) _ = _
                        simp only [Act.put, List.setIfInBounds_toArray, List.set_cons_zero, List.set_cons_succ, i64_w, i32_w]
                        rfl
                       exact norm_ (by first | (simp only [putAll, Act.put, List.setIfInBounds_toArray, List.set_cons_zero, List.set_cons_succ]; done) | (simp only [putAll, Act.put, List.setIfInBounds_toArray, List.set_cons_zero, List.set_cons_succ]; rfl)) (hJ5_11 () _ ⟨hHeld, (by (with_reducible repeat (first | apply Kd.S_alloc | apply Kd.S_drewN | apply Kd.S_drew)); exact HO_8.out), (zW HB)⟩)
                      ·skip
                       refine box_step ?hg (N := 11) ?hd (cs := #[.int .i64 0, .string (⟨#[]⟩ : ByteArray), .int .i64 0, .int .i64 0, .int .i64 0]) (t := 42) ?hr ?_; (case hd => rfl); (case hg => rfl); (case hr => first | (go_simp; done) | (go_simp; rfl))
                       intro gb287 hg w31 hbox hb
                       have n0_ := zA (Kd.S_below (by (with_reducible repeat (first | apply Kd.S_alloc | apply Kd.S_drewN | apply Kd.S_drew)); exact HO_8.out) hb); have n1_ := zA (below_step (zW HB) hb); have n2_ := zA (hbox); have n3_ := zA ((by rw [hg]; exact (below_size (zW HB)) : w.heap.size ≤ gb287)); have n4_ := zA ((by rw [hg]; exact (below_size (zW HB)) : w.heap.size ≤ gb287)); clear HO_8; clear HB; have HO_8 := n0_; have HB := n1_; have BK287 := n2_; have GW287 := n3_; have GE287 := n4_; clear n0_ n1_ n2_ n3_ n4_; clear hb hbox hg
                       refine hK.out _ _ ⟨((HB.out.cell (World.block_lt_of_cell? w _ hw275_0)).trans hw275_0), ((HB.out.cell (World.block_lt_of_cell? w _ hw275_1)).trans hw275_1), ((HB.out.cell (World.block_lt_of_cell? w _ hw275_2)).trans hw275_2), ((HB.out.cell (World.block_lt_of_cell? w _ hw275_3)).trans hw275_3), ((HB.out.cell (World.block_lt_of_cell? w _ hw275_4)).trans hw275_4), ((HB.out.cell (World.block_lt_of_cell? w _ hw281_0)).trans hw281_0), ((HB.out.cell (World.block_lt_of_cell? w _ hw281_1)).trans hw281_1), ((HB.out.cell (World.block_lt_of_cell? w _ hw281_2)).trans hw281_2), ((HB.out.cell (World.block_lt_of_cell? w _ hw281_3)).trans hw281_3), ((HB.out.cell (World.block_lt_of_cell? w _ hw281_4)).trans hw281_4)⟩ (fun hHeld => ?_)
                       clear hK K
                       refine norm_ (a' := ?_) ?_ ?_
                       rotate_left
                       ·show Act.put _ (some 11) _ = _
                        simp only [Act.put, List.setIfInBounds_toArray, List.set_cons_zero, List.set_cons_succ, i64_w, i32_w]
                        rfl
                       exact norm_ (by first | (simp only [putAll, Act.put, List.setIfInBounds_toArray, List.set_cons_zero, List.set_cons_succ]; done) | (simp only [putAll, Act.put, List.setIfInBounds_toArray, List.set_cons_zero, List.set_cons_succ]; rfl)) (hJ5_12 (gb287) _ ⟨hHeld, (by (with_reducible repeat (first | apply Kd.S_alloc | apply Kd.S_drewN | apply Kd.S_drew)); exact HO_8.out), (zB BK287), GW287.out, GE287.out, (zW1 HB GE287)⟩)
                      ·skip
                       refine box_step ?hg (N := 12) ?hd (cs := #[.int .i64 0, .string (⟨#[]⟩ : ByteArray), .int .i64 0, .int .i64 0, .int .i64 0]) (t := 42) ?hr ?_; (case hd => rfl); (case hg => rfl); (case hr => first | (go_simp; done) | (go_simp; rfl))
                       intro gb288 hg w31 hbox hb
                       have n0_ := zA (Kd.S_below (by (with_reducible repeat (first | apply Kd.S_alloc | apply Kd.S_drewN | apply Kd.S_drew)); exact HO_8.out) hb); have n1_ := zA (below_step (zW HB) hb); have n2_ := zA (hbox); have n3_ := zA ((by rw [hg]; exact (below_size (zW HB)) : w.heap.size ≤ gb288)); have n4_ := zA ((by rw [hg]; exact (below_size (zW HB)) : w.heap.size ≤ gb288)); clear HO_8; clear HB; have HO_8 := n0_; have HB := n1_; have BK288 := n2_; have GW288 := n3_; have GE288 := n4_; clear n0_ n1_ n2_ n3_ n4_; clear hb hbox hg
                       refine hK.out _ _ ⟨((HB.out.cell (World.block_lt_of_cell? w _ hw275_0)).trans hw275_0), ((HB.out.cell (World.block_lt_of_cell? w _ hw275_1)).trans hw275_1), ((HB.out.cell (World.block_lt_of_cell? w _ hw275_2)).trans hw275_2), ((HB.out.cell (World.block_lt_of_cell? w _ hw275_3)).trans hw275_3), ((HB.out.cell (World.block_lt_of_cell? w _ hw275_4)).trans hw275_4), ((HB.out.cell (World.block_lt_of_cell? w _ hw281_0)).trans hw281_0), ((HB.out.cell (World.block_lt_of_cell? w _ hw281_1)).trans hw281_1), ((HB.out.cell (World.block_lt_of_cell? w _ hw281_2)).trans hw281_2), ((HB.out.cell (World.block_lt_of_cell? w _ hw281_3)).trans hw281_3), ((HB.out.cell (World.block_lt_of_cell? w _ hw281_4)).trans hw281_4)⟩ (fun hHeld => ?_)
                       clear hK K
                       refine norm_ (a' := ?_) ?_ ?_
                       rotate_left
                       ·show Act.put _ (some 12) _ = _
                        simp only [Act.put, List.setIfInBounds_toArray, List.set_cons_zero, List.set_cons_succ, i64_w, i32_w]
                        rfl
                       exact norm_ (by first | (simp only [putAll, Act.put, List.setIfInBounds_toArray, List.set_cons_zero, List.set_cons_succ]; done) | (simp only [putAll, Act.put, List.setIfInBounds_toArray, List.set_cons_zero, List.set_cons_succ]; rfl)) (hJ5_13 (gb288) _ ⟨hHeld, (by (with_reducible repeat (first | apply Kd.S_alloc | apply Kd.S_drewN | apply Kd.S_drew)); exact HO_8.out), (zB BK288), GW288.out, GE288.out, (zW1 HB GE288)⟩)
                    ·skip
                     rintro ⟨gb287, gb288⟩ w31 ⟨hS_, h0_, h1_, h2_, h3_, h4_, h5_, h6_, h7_, h8_, h9_⟩
                     have n0_ : Aside0 (Kd.S (Kd.slice 3 (Kd.int .i64)) 45 w31 w.heap.size (fun _ => True) u8 x8_3) := ⟨h0_⟩; have n1_ : Aside0 (w31.heap[gb287]? = some (.cells #[.int .i64 0, .string (⟨#[]⟩ : ByteArray), .int .i64 0, .int .i64 0, .int .i64 0] 42 (0, 0))) := ⟨h1_⟩; have n2_ : Aside0 (w31.heap[gb288]? = some (.cells #[.int .i64 0, .string (⟨#[]⟩ : ByteArray), .int .i64 0, .int .i64 0, .int .i64 0] 42 (0, 0))) := ⟨h2_⟩; have n3_ : Aside0 (w.heap.size ≤ gb287) := ⟨h3_⟩; have n4_ : Aside0 (w.heap.size ≤ gb287) := ⟨h4_⟩; have n5_ : Aside0 (gb288 ≠ gb287) := ⟨h5_⟩; have n6_ : Aside0 (gb287 ≠ gb288) := ⟨h6_⟩; have n7_ : Aside0 (w.heap.size ≤ gb288) := ⟨h7_⟩; have n8_ : Aside0 (w.heap.size ≤ gb288) := ⟨h8_⟩; have n9_ : Aside0 (Below w.heap.size w w31) := ⟨h9_⟩; clear HO_8; clear HB; clear h0_ h1_ h2_ h3_ h4_ h5_ h6_ h7_ h8_ h9_; have HO_8 := n0_; have BK287 := n1_; have BK288 := n2_; have GW287 := n3_; have GE287 := n4_; have NB288_287 := n5_; have NB287_288 := n6_; have GW288 := n7_; have GE288 := n8_; have HB := n9_; clear n0_ n1_ n2_ n3_ n4_ n5_ n6_ n7_ n8_ n9_; have hHeld : w31.cell? (ad275.add ((x9_2).toNat * 5)) = some (.int .i64 ((rd_T42 l0 x9_2).f0)) ∧ w31.cell? ⟨(ad275.add ((x9_2).toNat * 5)).block, (ad275.add ((x9_2).toNat * 5)).off + 1, none⟩ = some (.string ((rd_T42 l0 x9_2).f1)) ∧ w31.cell? ⟨(ad275.add ((x9_2).toNat * 5)).block, (ad275.add ((x9_2).toNat * 5)).off + 2, none⟩ = some (.int .i64 ((rd_T42 l0 x9_2).f2)) ∧ w31.cell? ⟨(ad275.add ((x9_2).toNat * 5)).block, (ad275.add ((x9_2).toNat * 5)).off + 3, none⟩ = some (.int .i64 ((rd_T42 l0 x9_2).f3)) ∧ w31.cell? ⟨(ad275.add ((x9_2).toNat * 5)).block, (ad275.add ((x9_2).toNat * 5)).off + 4, none⟩ = some (.int .i64 ((rd_T42 l0 x9_2).f4)) ∧ w31.cell? (ad275.add ((x10_3).toNat * 5)) = some (.int .i64 ((rd_T42 l0 x10_3).f0)) ∧ w31.cell? ⟨(ad275.add ((x10_3).toNat * 5)).block, (ad275.add ((x10_3).toNat * 5)).off + 1, none⟩ = some (.string ((rd_T42 l0 x10_3).f1)) ∧ w31.cell? ⟨(ad275.add ((x10_3).toNat * 5)).block, (ad275.add ((x10_3).toNat * 5)).off + 2, none⟩ = some (.int .i64 ((rd_T42 l0 x10_3).f2)) ∧ w31.cell? ⟨(ad275.add ((x10_3).toNat * 5)).block, (ad275.add ((x10_3).toNat * 5)).off + 3, none⟩ = some (.int .i64 ((rd_T42 l0 x10_3).f3)) ∧ w31.cell? ⟨(ad275.add ((x10_3).toNat * 5)).block, (ad275.add ((x10_3).toNat * 5)).off + 4, none⟩ = some (.int .i64 ((rd_T42 l0 x10_3).f4)) := hS_
                     refine norm_ (a' := ?_) ?_ ?_
                     rotate_left
                     ·simp only [putAll, Act.put, List.setIfInBounds_toArray, List.set_cons_zero, List.set_cons_succ]
                      rfl
                     refine one_ (i := 5) (N := some 47) #[true, true, true, true, true, true, true, true, true, true, true, false, true, true, false, false] rfl rfl (one_of HT_.out (by kernel_rfl)) (by decide) (fun K hK => ?_)
                     refine goes_ Tryd.func20 (by kernel_rfl) rfl #[.agg #[.int .i64 ((rd_T42 l0 x9_2).f0), .string ((rd_T42 l0 x9_2).f1), .int .i64 ((rd_T42 l0 x9_2).f2), .int .i64 ((rd_T42 l0 x9_2).f3), .int .i64 ((rd_T42 l0 x9_2).f4)], .int .i64 a1] (by rfl) rfl rfl (zM) ?_
                     with_reducible refine (spec_l3Faded.calls ((rd_T42 l0 x9_2).f0) ((rd_T42 l0 x9_2).f1) ((rd_T42 l0 x9_2).f2) ((rd_T42 l0 x9_2).f3) ((rd_T42 l0 x9_2).f4) a1 t276 t277 t278 t279 t280 _ A20.out).mono ?_
                     rintro e w32 ⟨rfl, hb⟩
                     refine ⟨_, rfl, ?_⟩
                     have n0_ := zA (Kd.S_below (by (with_reducible repeat (first | apply Kd.S_alloc | apply Kd.S_drewN | apply Kd.S_drew)); exact HO_8.out) hb); have n1_ := zA (blk_below (g := gb287) (o := .cells #[.int .i64 0, .string (⟨#[]⟩ : ByteArray), .int .i64 0, .int .i64 0, .int .i64 0] 42 (0, 0)) (zB BK287) hb); have n2_ := zA (blk_below (g := gb288) (o := .cells #[.int .i64 0, .string (⟨#[]⟩ : ByteArray), .int .i64 0, .int .i64 0, .int .i64 0] 42 (0, 0)) (zB BK288) hb); have n3_ := zA (below_step (zW2 HB GE287 GE288) hb); clear HO_8; clear BK287; clear BK288; clear HB; have HO_8 := n0_; have BK287 := n1_; have BK288 := n2_; have HB := n3_; clear n0_ n1_ n2_ n3_; (try clear hb); (try clear hb2); (try clear hk); (try clear hi)
                     refine hK.out _ _ ⟨((HB.out.cell (World.block_lt_of_cell? w _ hw275_0)).trans hw275_0), ((HB.out.cell (World.block_lt_of_cell? w _ hw275_1)).trans hw275_1), ((HB.out.cell (World.block_lt_of_cell? w _ hw275_2)).trans hw275_2), ((HB.out.cell (World.block_lt_of_cell? w _ hw275_3)).trans hw275_3), ((HB.out.cell (World.block_lt_of_cell? w _ hw275_4)).trans hw275_4), ((HB.out.cell (World.block_lt_of_cell? w _ hw281_0)).trans hw281_0), ((HB.out.cell (World.block_lt_of_cell? w _ hw281_1)).trans hw281_1), ((HB.out.cell (World.block_lt_of_cell? w _ hw281_2)).trans hw281_2), ((HB.out.cell (World.block_lt_of_cell? w _ hw281_3)).trans hw281_3), ((HB.out.cell (World.block_lt_of_cell? w _ hw281_4)).trans hw281_4)⟩ (fun hHeld => ?_)
                     clear hK K
                     refine norm_ (a' := ?_) ?_ ?_
                     rotate_left
                     ·show Act.put _ (some 47) _ = _
                      simp only [Act.put, List.setIfInBounds_toArray, List.set_cons_zero, List.set_cons_succ, i64_w, i32_w]
                      rfl
                     exact norm_ (by first | (simp only [putAll, Act.put, List.setIfInBounds_toArray, List.set_cons_zero, List.set_cons_succ]; done) | (simp only [putAll, Act.put, List.setIfInBounds_toArray, List.set_cons_zero, List.set_cons_succ]; rfl)) (hJ5_12_13 (gb287, gb288) _ ⟨hHeld, (by (with_reducible repeat (first | apply Kd.S_alloc | apply Kd.S_drewN | apply Kd.S_drew)); exact HO_8.out), (zB BK287), (zB BK288), GW287.out, GE287.out, NB288_287.out, NB287_288.out, GW288.out, GE288.out, (zW2 HB GE287 GE288)⟩)
                   ·skip
                    rintro gb288 w31 ⟨hS_, h0_, h1_, h2_, h3_, h4_⟩
                    have n0_ : Aside0 (Kd.S (Kd.slice 3 (Kd.int .i64)) 45 w31 w.heap.size (fun _ => True) u8 x8_3) := ⟨h0_⟩; have n1_ : Aside0 (w31.heap[gb288]? = some (.cells #[.int .i64 0, .string (⟨#[]⟩ : ByteArray), .int .i64 0, .int .i64 0, .int .i64 0] 42 (0, 0))) := ⟨h1_⟩; have n2_ : Aside0 (w.heap.size ≤ gb288) := ⟨h2_⟩; have n3_ : Aside0 (w.heap.size ≤ gb288) := ⟨h3_⟩; have n4_ : Aside0 (Below w.heap.size w w31) := ⟨h4_⟩; clear HO_8; clear HB; clear h0_ h1_ h2_ h3_ h4_; have HO_8 := n0_; have BK288 := n1_; have GW288 := n2_; have GE288 := n3_; have HB := n4_; clear n0_ n1_ n2_ n3_ n4_; have hHeld : w31.cell? (ad275.add ((x9_2).toNat * 5)) = some (.int .i64 ((rd_T42 l0 x9_2).f0)) ∧ w31.cell? ⟨(ad275.add ((x9_2).toNat * 5)).block, (ad275.add ((x9_2).toNat * 5)).off + 1, none⟩ = some (.string ((rd_T42 l0 x9_2).f1)) ∧ w31.cell? ⟨(ad275.add ((x9_2).toNat * 5)).block, (ad275.add ((x9_2).toNat * 5)).off + 2, none⟩ = some (.int .i64 ((rd_T42 l0 x9_2).f2)) ∧ w31.cell? ⟨(ad275.add ((x9_2).toNat * 5)).block, (ad275.add ((x9_2).toNat * 5)).off + 3, none⟩ = some (.int .i64 ((rd_T42 l0 x9_2).f3)) ∧ w31.cell? ⟨(ad275.add ((x9_2).toNat * 5)).block, (ad275.add ((x9_2).toNat * 5)).off + 4, none⟩ = some (.int .i64 ((rd_T42 l0 x9_2).f4)) ∧ w31.cell? (ad275.add ((x10_3).toNat * 5)) = some (.int .i64 ((rd_T42 l0 x10_3).f0)) ∧ w31.cell? ⟨(ad275.add ((x10_3).toNat * 5)).block, (ad275.add ((x10_3).toNat * 5)).off + 1, none⟩ = some (.string ((rd_T42 l0 x10_3).f1)) ∧ w31.cell? ⟨(ad275.add ((x10_3).toNat * 5)).block, (ad275.add ((x10_3).toNat * 5)).off + 2, none⟩ = some (.int .i64 ((rd_T42 l0 x10_3).f2)) ∧ w31.cell? ⟨(ad275.add ((x10_3).toNat * 5)).block, (ad275.add ((x10_3).toNat * 5)).off + 3, none⟩ = some (.int .i64 ((rd_T42 l0 x10_3).f3)) ∧ w31.cell? ⟨(ad275.add ((x10_3).toNat * 5)).block, (ad275.add ((x10_3).toNat * 5)).off + 4, none⟩ = some (.int .i64 ((rd_T42 l0 x10_3).f4)) := hS_
                    refine norm_ (a' := ?_) ?_ ?_
                    rotate_left
                    ·simp only [putAll, Act.put, List.setIfInBounds_toArray, List.set_cons_zero, List.set_cons_succ]
                     rfl
                    refine two_ (i := 11) (j := 12) (Ni := some 53) (Nj := some 11) #[true, true, true, true, true, true, true, true, true, true, true, true, false, true, false, false] #[true, true, true, true, true, true, true, true, true, true, true, false, true, true, false, false] rfl rfl rfl rfl (two_of HT_.out (by kernel_rfl)) (by decide) (by decide) (fun K hK => ?_) (fun K hK => ?_)
                    ·skip
                     refine goes_ Tryd.func20 (by kernel_rfl) rfl #[.agg #[.int .i64 ((rd_T42 l0 x10_3).f0), .string ((rd_T42 l0 x10_3).f1), .int .i64 ((rd_T42 l0 x10_3).f2), .int .i64 ((rd_T42 l0 x10_3).f3), .int .i64 ((rd_T42 l0 x10_3).f4)], .int .i64 a1] (by rfl) rfl rfl (zM) ?_
                     with_reducible refine (spec_l3Faded.calls ((rd_T42 l0 x10_3).f0) ((rd_T42 l0 x10_3).f1) ((rd_T42 l0 x10_3).f2) ((rd_T42 l0 x10_3).f3) ((rd_T42 l0 x10_3).f4) a1 t282 t283 t284 t285 t286 _ A22.out).mono ?_
                     rintro e w32 ⟨rfl, hb⟩
                     refine ⟨_, rfl, ?_⟩
                     have n0_ := zA (Kd.S_below (by (with_reducible repeat (first | apply Kd.S_alloc | apply Kd.S_drewN | apply Kd.S_drew)); exact HO_8.out) hb); have n1_ := zA (blk_below (g := gb288) (o := .cells #[.int .i64 0, .string (⟨#[]⟩ : ByteArray), .int .i64 0, .int .i64 0, .int .i64 0] 42 (0, 0)) (zB BK288) hb); have n2_ := zA (below_step (zW1 HB GE288) hb); clear HO_8; clear BK288; clear HB; have HO_8 := n0_; have BK288 := n1_; have HB := n2_; clear n0_ n1_ n2_; (try clear hb); (try clear hb2); (try clear hk); (try clear hi)
                     refine hK.out _ _ ⟨((HB.out.cell (World.block_lt_of_cell? w _ hw275_0)).trans hw275_0), ((HB.out.cell (World.block_lt_of_cell? w _ hw275_1)).trans hw275_1), ((HB.out.cell (World.block_lt_of_cell? w _ hw275_2)).trans hw275_2), ((HB.out.cell (World.block_lt_of_cell? w _ hw275_3)).trans hw275_3), ((HB.out.cell (World.block_lt_of_cell? w _ hw275_4)).trans hw275_4), ((HB.out.cell (World.block_lt_of_cell? w _ hw281_0)).trans hw281_0), ((HB.out.cell (World.block_lt_of_cell? w _ hw281_1)).trans hw281_1), ((HB.out.cell (World.block_lt_of_cell? w _ hw281_2)).trans hw281_2), ((HB.out.cell (World.block_lt_of_cell? w _ hw281_3)).trans hw281_3), ((HB.out.cell (World.block_lt_of_cell? w _ hw281_4)).trans hw281_4)⟩ (fun hHeld => ?_)
                     clear hK K
                     refine norm_ (a' := ?_) ?_ ?_
                     rotate_left
                     ·show Act.put _ (some 53) _ = _
                      simp only [Act.put, List.setIfInBounds_toArray, List.set_cons_zero, List.set_cons_succ, i64_w, i32_w]
                      rfl
                     exact norm_ (by first | (simp only [putAll, Act.put, List.setIfInBounds_toArray, List.set_cons_zero, List.set_cons_succ]; done) | (simp only [putAll, Act.put, List.setIfInBounds_toArray, List.set_cons_zero, List.set_cons_succ]; rfl)) (hJ5_11_13 (gb288) _ ⟨hHeld, (by (with_reducible repeat (first | apply Kd.S_alloc | apply Kd.S_drewN | apply Kd.S_drew)); exact HO_8.out), (zB BK288), GW288.out, GE288.out, (zW1 HB GE288)⟩)
                    ·skip
                     refine box_step ?hg (N := 11) ?hd (cs := #[.int .i64 0, .string (⟨#[]⟩ : ByteArray), .int .i64 0, .int .i64 0, .int .i64 0]) (t := 42) ?hr ?_; (case hd => rfl); (case hg => rfl); (case hr => first | (go_simp; done) | (go_simp; rfl))
                     intro gb287 hg w32 hbox hb
                     have n0_ := zA (Kd.S_below (by (with_reducible repeat (first | apply Kd.S_alloc | apply Kd.S_drewN | apply Kd.S_drew)); exact HO_8.out) hb); have n1_ := zA (blk_below (g := gb288) (o := .cells #[.int .i64 0, .string (⟨#[]⟩ : ByteArray), .int .i64 0, .int .i64 0, .int .i64 0] 42 (0, 0)) (zB BK288) hb); have n2_ := zA (below_step (zW1 HB GE288) hb); have n3_ := zA (hbox); have n4_ := zA ((by rw [hg]; exact (below_size (zW1 HB GE288)) : w.heap.size ≤ gb287)); have n5_ := zA ((by rw [hg]; exact (below_size (zW1 HB GE288)) : w.heap.size ≤ gb287)); have n6_ := zA ((by rw [hg]; exact Nat.ne_of_lt (blk_lt (g := gb288) (o := .cells #[.int .i64 0, .string (⟨#[]⟩ : ByteArray), .int .i64 0, .int .i64 0, .int .i64 0] 42 (0, 0)) (zB BK288)) : gb288 ≠ gb287)); have n7_ := zA ((by rw [hg]; exact Nat.ne_of_gt (blk_lt (g := gb288) (o := .cells #[.int .i64 0, .string (⟨#[]⟩ : ByteArray), .int .i64 0, .int .i64 0, .int .i64 0] 42 (0, 0)) (zB BK288)) : gb287 ≠ gb288)); clear HO_8; clear BK288; clear HB; have HO_8 := n0_; have BK288 := n1_; have HB := n2_; have BK287 := n3_; have GW287 := n4_; have GE287 := n5_; have NB288_287 := n6_; have NB287_288 := n7_; clear n0_ n1_ n2_ n3_ n4_ n5_ n6_ n7_; clear hb hbox hg
                     refine hK.out _ _ ⟨((HB.out.cell (World.block_lt_of_cell? w _ hw275_0)).trans hw275_0), ((HB.out.cell (World.block_lt_of_cell? w _ hw275_1)).trans hw275_1), ((HB.out.cell (World.block_lt_of_cell? w _ hw275_2)).trans hw275_2), ((HB.out.cell (World.block_lt_of_cell? w _ hw275_3)).trans hw275_3), ((HB.out.cell (World.block_lt_of_cell? w _ hw275_4)).trans hw275_4), ((HB.out.cell (World.block_lt_of_cell? w _ hw281_0)).trans hw281_0), ((HB.out.cell (World.block_lt_of_cell? w _ hw281_1)).trans hw281_1), ((HB.out.cell (World.block_lt_of_cell? w _ hw281_2)).trans hw281_2), ((HB.out.cell (World.block_lt_of_cell? w _ hw281_3)).trans hw281_3), ((HB.out.cell (World.block_lt_of_cell? w _ hw281_4)).trans hw281_4)⟩ (fun hHeld => ?_)
                     clear hK K
                     refine norm_ (a' := ?_) ?_ ?_
                     rotate_left
                     ·show Act.put _ (some 11) _ = _
                      simp only [Act.put, List.setIfInBounds_toArray, List.set_cons_zero, List.set_cons_succ, i64_w, i32_w]
                      rfl
                     exact norm_ (by first | (simp only [putAll, Act.put, List.setIfInBounds_toArray, List.set_cons_zero, List.set_cons_succ]; done) | (simp only [putAll, Act.put, List.setIfInBounds_toArray, List.set_cons_zero, List.set_cons_succ]; rfl)) (hJ5_12_13 (gb287, gb288) _ ⟨hHeld, (by (with_reducible repeat (first | apply Kd.S_alloc | apply Kd.S_drewN | apply Kd.S_drew)); exact HO_8.out), (zB BK287), (zB BK288), GW287.out, GE287.out, NB288_287.out, NB287_288.out, GW288.out, GE288.out, (zW2 HB GE288 GE287)⟩)
                  ·skip
                   rintro gb287 w31 ⟨hS_, h0_, h1_, h2_, h3_, h4_⟩
                   have n0_ : Aside0 (Kd.S (Kd.slice 3 (Kd.int .i64)) 45 w31 w.heap.size (fun _ => True) u8 x8_3) := ⟨h0_⟩; have n1_ : Aside0 (w31.heap[gb287]? = some (.cells #[.int .i64 0, .string (⟨#[]⟩ : ByteArray), .int .i64 0, .int .i64 0, .int .i64 0] 42 (0, 0))) := ⟨h1_⟩; have n2_ : Aside0 (w.heap.size ≤ gb287) := ⟨h2_⟩; have n3_ : Aside0 (w.heap.size ≤ gb287) := ⟨h3_⟩; have n4_ : Aside0 (Below w.heap.size w w31) := ⟨h4_⟩; clear HO_8; clear HB; clear h0_ h1_ h2_ h3_ h4_; have HO_8 := n0_; have BK287 := n1_; have GW287 := n2_; have GE287 := n3_; have HB := n4_; clear n0_ n1_ n2_ n3_ n4_; have hHeld : w31.cell? (ad275.add ((x9_2).toNat * 5)) = some (.int .i64 ((rd_T42 l0 x9_2).f0)) ∧ w31.cell? ⟨(ad275.add ((x9_2).toNat * 5)).block, (ad275.add ((x9_2).toNat * 5)).off + 1, none⟩ = some (.string ((rd_T42 l0 x9_2).f1)) ∧ w31.cell? ⟨(ad275.add ((x9_2).toNat * 5)).block, (ad275.add ((x9_2).toNat * 5)).off + 2, none⟩ = some (.int .i64 ((rd_T42 l0 x9_2).f2)) ∧ w31.cell? ⟨(ad275.add ((x9_2).toNat * 5)).block, (ad275.add ((x9_2).toNat * 5)).off + 3, none⟩ = some (.int .i64 ((rd_T42 l0 x9_2).f3)) ∧ w31.cell? ⟨(ad275.add ((x9_2).toNat * 5)).block, (ad275.add ((x9_2).toNat * 5)).off + 4, none⟩ = some (.int .i64 ((rd_T42 l0 x9_2).f4)) ∧ w31.cell? (ad275.add ((x10_3).toNat * 5)) = some (.int .i64 ((rd_T42 l0 x10_3).f0)) ∧ w31.cell? ⟨(ad275.add ((x10_3).toNat * 5)).block, (ad275.add ((x10_3).toNat * 5)).off + 1, none⟩ = some (.string ((rd_T42 l0 x10_3).f1)) ∧ w31.cell? ⟨(ad275.add ((x10_3).toNat * 5)).block, (ad275.add ((x10_3).toNat * 5)).off + 2, none⟩ = some (.int .i64 ((rd_T42 l0 x10_3).f2)) ∧ w31.cell? ⟨(ad275.add ((x10_3).toNat * 5)).block, (ad275.add ((x10_3).toNat * 5)).off + 3, none⟩ = some (.int .i64 ((rd_T42 l0 x10_3).f3)) ∧ w31.cell? ⟨(ad275.add ((x10_3).toNat * 5)).block, (ad275.add ((x10_3).toNat * 5)).off + 4, none⟩ = some (.int .i64 ((rd_T42 l0 x10_3).f4)) := hS_
                   refine norm_ (a' := ?_) ?_ ?_
                   rotate_left
                   ·simp only [putAll, Act.put, List.setIfInBounds_toArray, List.set_cons_zero, List.set_cons_succ]
                    rfl
                   refine two_ (i := 11) (j := 13) (Ni := some 53) (Nj := some 12) #[true, true, true, true, true, true, true, true, true, true, true, true, true, false, false, false] #[true, true, true, true, true, true, true, true, true, true, true, false, true, true, false, false] rfl rfl rfl rfl (two_of HT_.out (by kernel_rfl)) (by decide) (by decide) (fun K hK => ?_) (fun K hK => ?_)
                   ·skip
                    refine goes_ Tryd.func20 (by kernel_rfl) rfl #[.agg #[.int .i64 ((rd_T42 l0 x10_3).f0), .string ((rd_T42 l0 x10_3).f1), .int .i64 ((rd_T42 l0 x10_3).f2), .int .i64 ((rd_T42 l0 x10_3).f3), .int .i64 ((rd_T42 l0 x10_3).f4)], .int .i64 a1] (by rfl) rfl rfl (zM) ?_
                    with_reducible refine (spec_l3Faded.calls ((rd_T42 l0 x10_3).f0) ((rd_T42 l0 x10_3).f1) ((rd_T42 l0 x10_3).f2) ((rd_T42 l0 x10_3).f3) ((rd_T42 l0 x10_3).f4) a1 t282 t283 t284 t285 t286 _ A22.out).mono ?_
                    rintro e w32 ⟨rfl, hb⟩
                    refine ⟨_, rfl, ?_⟩
                    have n0_ := zA (Kd.S_below (by (with_reducible repeat (first | apply Kd.S_alloc | apply Kd.S_drewN | apply Kd.S_drew)); exact HO_8.out) hb); have n1_ := zA (blk_below (g := gb287) (o := .cells #[.int .i64 0, .string (⟨#[]⟩ : ByteArray), .int .i64 0, .int .i64 0, .int .i64 0] 42 (0, 0)) (zB BK287) hb); have n2_ := zA (below_step (zW1 HB GE287) hb); clear HO_8; clear BK287; clear HB; have HO_8 := n0_; have BK287 := n1_; have HB := n2_; clear n0_ n1_ n2_; (try clear hb); (try clear hb2); (try clear hk); (try clear hi)
                    refine hK.out _ _ ⟨((HB.out.cell (World.block_lt_of_cell? w _ hw275_0)).trans hw275_0), ((HB.out.cell (World.block_lt_of_cell? w _ hw275_1)).trans hw275_1), ((HB.out.cell (World.block_lt_of_cell? w _ hw275_2)).trans hw275_2), ((HB.out.cell (World.block_lt_of_cell? w _ hw275_3)).trans hw275_3), ((HB.out.cell (World.block_lt_of_cell? w _ hw275_4)).trans hw275_4), ((HB.out.cell (World.block_lt_of_cell? w _ hw281_0)).trans hw281_0), ((HB.out.cell (World.block_lt_of_cell? w _ hw281_1)).trans hw281_1), ((HB.out.cell (World.block_lt_of_cell? w _ hw281_2)).trans hw281_2), ((HB.out.cell (World.block_lt_of_cell? w _ hw281_3)).trans hw281_3), ((HB.out.cell (World.block_lt_of_cell? w _ hw281_4)).trans hw281_4)⟩ (fun hHeld => ?_)
                    clear hK K
                    refine norm_ (a' := ?_) ?_ ?_
                    rotate_left
                    ·show Act.put _ (some 53) _ = _
                     simp only [Act.put, List.setIfInBounds_toArray, List.set_cons_zero, List.set_cons_succ, i64_w, i32_w]
                     rfl
                    exact norm_ (by first | (simp only [putAll, Act.put, List.setIfInBounds_toArray, List.set_cons_zero, List.set_cons_succ]; done) | (simp only [putAll, Act.put, List.setIfInBounds_toArray, List.set_cons_zero, List.set_cons_succ]; rfl)) (hJ5_11_12 (gb287) _ ⟨hHeld, (by (with_reducible repeat (first | apply Kd.S_alloc | apply Kd.S_drewN | apply Kd.S_drew)); exact HO_8.out), (zB BK287), GW287.out, GE287.out, (zW1 HB GE287)⟩)
                   ·skip
                    refine box_step ?hg (N := 12) ?hd (cs := #[.int .i64 0, .string (⟨#[]⟩ : ByteArray), .int .i64 0, .int .i64 0, .int .i64 0]) (t := 42) ?hr ?_; (case hd => rfl); (case hg => rfl); (case hr => first | (go_simp; done) | (go_simp; rfl))
                    intro gb288 hg w32 hbox hb
                    have n0_ := zA (Kd.S_below (by (with_reducible repeat (first | apply Kd.S_alloc | apply Kd.S_drewN | apply Kd.S_drew)); exact HO_8.out) hb); have n1_ := zA (blk_below (g := gb287) (o := .cells #[.int .i64 0, .string (⟨#[]⟩ : ByteArray), .int .i64 0, .int .i64 0, .int .i64 0] 42 (0, 0)) (zB BK287) hb); have n2_ := zA (below_step (zW1 HB GE287) hb); have n3_ := zA (hbox); have n4_ := zA ((by rw [hg]; exact (below_size (zW1 HB GE287)) : w.heap.size ≤ gb288)); have n5_ := zA ((by rw [hg]; exact (below_size (zW1 HB GE287)) : w.heap.size ≤ gb288)); have n6_ := zA ((by rw [hg]; exact Nat.ne_of_lt (blk_lt (g := gb287) (o := .cells #[.int .i64 0, .string (⟨#[]⟩ : ByteArray), .int .i64 0, .int .i64 0, .int .i64 0] 42 (0, 0)) (zB BK287)) : gb287 ≠ gb288)); have n7_ := zA ((by rw [hg]; exact Nat.ne_of_gt (blk_lt (g := gb287) (o := .cells #[.int .i64 0, .string (⟨#[]⟩ : ByteArray), .int .i64 0, .int .i64 0, .int .i64 0] 42 (0, 0)) (zB BK287)) : gb288 ≠ gb287)); clear HO_8; clear BK287; clear HB; have HO_8 := n0_; have BK287 := n1_; have HB := n2_; have BK288 := n3_; have GW288 := n4_; have GE288 := n5_; have NB287_288 := n6_; have NB288_287 := n7_; clear n0_ n1_ n2_ n3_ n4_ n5_ n6_ n7_; clear hb hbox hg
                    refine hK.out _ _ ⟨((HB.out.cell (World.block_lt_of_cell? w _ hw275_0)).trans hw275_0), ((HB.out.cell (World.block_lt_of_cell? w _ hw275_1)).trans hw275_1), ((HB.out.cell (World.block_lt_of_cell? w _ hw275_2)).trans hw275_2), ((HB.out.cell (World.block_lt_of_cell? w _ hw275_3)).trans hw275_3), ((HB.out.cell (World.block_lt_of_cell? w _ hw275_4)).trans hw275_4), ((HB.out.cell (World.block_lt_of_cell? w _ hw281_0)).trans hw281_0), ((HB.out.cell (World.block_lt_of_cell? w _ hw281_1)).trans hw281_1), ((HB.out.cell (World.block_lt_of_cell? w _ hw281_2)).trans hw281_2), ((HB.out.cell (World.block_lt_of_cell? w _ hw281_3)).trans hw281_3), ((HB.out.cell (World.block_lt_of_cell? w _ hw281_4)).trans hw281_4)⟩ (fun hHeld => ?_)
                    clear hK K
                    refine norm_ (a' := ?_) ?_ ?_
                    rotate_left
                    ·show Act.put _ (some 12) _ = _
                     simp only [Act.put, List.setIfInBounds_toArray, List.set_cons_zero, List.set_cons_succ, i64_w, i32_w]
                     rfl
                    exact norm_ (by first | (simp only [putAll, Act.put, List.setIfInBounds_toArray, List.set_cons_zero, List.set_cons_succ]; done) | (simp only [putAll, Act.put, List.setIfInBounds_toArray, List.set_cons_zero, List.set_cons_succ]; rfl)) (hJ5_12_13 (gb287, gb288) _ ⟨hHeld, (by (with_reducible repeat (first | apply Kd.S_alloc | apply Kd.S_drewN | apply Kd.S_drew)); exact HO_8.out), (zB BK287), (zB BK288), GW287.out, GE287.out, NB288_287.out, NB287_288.out, GW288.out, GE288.out, (zW2 HB GE287 GE288)⟩)
                 ·skip
                  rintro _ w31 ⟨hS_, h0_, h1_⟩
                  have n0_ : Aside0 (Kd.S (Kd.slice 3 (Kd.int .i64)) 45 w31 w.heap.size (fun _ => True) u8 x8_3) := ⟨h0_⟩; have n1_ : Aside0 (Below w.heap.size w w31) := ⟨h1_⟩; clear HO_8; clear HB; clear h0_ h1_; have HO_8 := n0_; have HB := n1_; clear n0_ n1_; have hHeld : w31.cell? (ad275.add ((x9_2).toNat * 5)) = some (.int .i64 ((rd_T42 l0 x9_2).f0)) ∧ w31.cell? ⟨(ad275.add ((x9_2).toNat * 5)).block, (ad275.add ((x9_2).toNat * 5)).off + 1, none⟩ = some (.string ((rd_T42 l0 x9_2).f1)) ∧ w31.cell? ⟨(ad275.add ((x9_2).toNat * 5)).block, (ad275.add ((x9_2).toNat * 5)).off + 2, none⟩ = some (.int .i64 ((rd_T42 l0 x9_2).f2)) ∧ w31.cell? ⟨(ad275.add ((x9_2).toNat * 5)).block, (ad275.add ((x9_2).toNat * 5)).off + 3, none⟩ = some (.int .i64 ((rd_T42 l0 x9_2).f3)) ∧ w31.cell? ⟨(ad275.add ((x9_2).toNat * 5)).block, (ad275.add ((x9_2).toNat * 5)).off + 4, none⟩ = some (.int .i64 ((rd_T42 l0 x9_2).f4)) ∧ w31.cell? (ad275.add ((x10_3).toNat * 5)) = some (.int .i64 ((rd_T42 l0 x10_3).f0)) ∧ w31.cell? ⟨(ad275.add ((x10_3).toNat * 5)).block, (ad275.add ((x10_3).toNat * 5)).off + 1, none⟩ = some (.string ((rd_T42 l0 x10_3).f1)) ∧ w31.cell? ⟨(ad275.add ((x10_3).toNat * 5)).block, (ad275.add ((x10_3).toNat * 5)).off + 2, none⟩ = some (.int .i64 ((rd_T42 l0 x10_3).f2)) ∧ w31.cell? ⟨(ad275.add ((x10_3).toNat * 5)).block, (ad275.add ((x10_3).toNat * 5)).off + 3, none⟩ = some (.int .i64 ((rd_T42 l0 x10_3).f3)) ∧ w31.cell? ⟨(ad275.add ((x10_3).toNat * 5)).block, (ad275.add ((x10_3).toNat * 5)).off + 4, none⟩ = some (.int .i64 ((rd_T42 l0 x10_3).f4)) := hS_
                  refine norm_ (a' := ?_) ?_ ?_
                  rotate_left
                  ·simp only [putAll, Act.put, List.setIfInBounds_toArray, List.set_cons_zero, List.set_cons_succ]
                   rfl
                  refine two_ (i := 12) (j := 13) (Ni := some 11) (Nj := some 12) #[true, true, true, true, true, true, true, true, true, true, true, true, true, false, false, false] #[true, true, true, true, true, true, true, true, true, true, true, true, false, true, false, false] rfl rfl rfl rfl (two_of HT_.out (by kernel_rfl)) (by decide) (by decide) (fun K hK => ?_) (fun K hK => ?_)
                  ·skip
                   refine box_step ?hg (N := 11) ?hd (cs := #[.int .i64 0, .string (⟨#[]⟩ : ByteArray), .int .i64 0, .int .i64 0, .int .i64 0]) (t := 42) ?hr ?_; (case hd => rfl); (case hg => rfl); (case hr => first | (go_simp; done) | (go_simp; rfl))
                   intro gb287 hg w32 hbox hb
                   have n0_ := zA (Kd.S_below (by (with_reducible repeat (first | apply Kd.S_alloc | apply Kd.S_drewN | apply Kd.S_drew)); exact HO_8.out) hb); have n1_ := zA (below_step (zW HB) hb); have n2_ := zA (hbox); have n3_ := zA ((by rw [hg]; exact (below_size (zW HB)) : w.heap.size ≤ gb287)); have n4_ := zA ((by rw [hg]; exact (below_size (zW HB)) : w.heap.size ≤ gb287)); clear HO_8; clear HB; have HO_8 := n0_; have HB := n1_; have BK287 := n2_; have GW287 := n3_; have GE287 := n4_; clear n0_ n1_ n2_ n3_ n4_; clear hb hbox hg
                   refine hK.out _ _ ⟨((HB.out.cell (World.block_lt_of_cell? w _ hw275_0)).trans hw275_0), ((HB.out.cell (World.block_lt_of_cell? w _ hw275_1)).trans hw275_1), ((HB.out.cell (World.block_lt_of_cell? w _ hw275_2)).trans hw275_2), ((HB.out.cell (World.block_lt_of_cell? w _ hw275_3)).trans hw275_3), ((HB.out.cell (World.block_lt_of_cell? w _ hw275_4)).trans hw275_4), ((HB.out.cell (World.block_lt_of_cell? w _ hw281_0)).trans hw281_0), ((HB.out.cell (World.block_lt_of_cell? w _ hw281_1)).trans hw281_1), ((HB.out.cell (World.block_lt_of_cell? w _ hw281_2)).trans hw281_2), ((HB.out.cell (World.block_lt_of_cell? w _ hw281_3)).trans hw281_3), ((HB.out.cell (World.block_lt_of_cell? w _ hw281_4)).trans hw281_4)⟩ (fun hHeld => ?_)
                   clear hK K
                   refine norm_ (a' := ?_) ?_ ?_
                   rotate_left
                   ·show Act.put _ (some 11) _ = _
                    simp only [Act.put, List.setIfInBounds_toArray, List.set_cons_zero, List.set_cons_succ, i64_w, i32_w]
                    rfl
                   exact norm_ (by first | (simp only [putAll, Act.put, List.setIfInBounds_toArray, List.set_cons_zero, List.set_cons_succ]; done) | (simp only [putAll, Act.put, List.setIfInBounds_toArray, List.set_cons_zero, List.set_cons_succ]; rfl)) (hJ5_11_12 (gb287) _ ⟨hHeld, (by (with_reducible repeat (first | apply Kd.S_alloc | apply Kd.S_drewN | apply Kd.S_drew)); exact HO_8.out), (zB BK287), GW287.out, GE287.out, (zW1 HB GE287)⟩)
                  ·skip
                   refine box_step ?hg (N := 12) ?hd (cs := #[.int .i64 0, .string (⟨#[]⟩ : ByteArray), .int .i64 0, .int .i64 0, .int .i64 0]) (t := 42) ?hr ?_; (case hd => rfl); (case hg => rfl); (case hr => first | (go_simp; done) | (go_simp; rfl))
                   intro gb288 hg w32 hbox hb
                   have n0_ := zA (Kd.S_below (by (with_reducible repeat (first | apply Kd.S_alloc | apply Kd.S_drewN | apply Kd.S_drew)); exact HO_8.out) hb); have n1_ := zA (below_step (zW HB) hb); have n2_ := zA (hbox); have n3_ := zA ((by rw [hg]; exact (below_size (zW HB)) : w.heap.size ≤ gb288)); have n4_ := zA ((by rw [hg]; exact (below_size (zW HB)) : w.heap.size ≤ gb288)); clear HO_8; clear HB; have HO_8 := n0_; have HB := n1_; have BK288 := n2_; have GW288 := n3_; have GE288 := n4_; clear n0_ n1_ n2_ n3_ n4_; clear hb hbox hg
                   refine hK.out _ _ ⟨((HB.out.cell (World.block_lt_of_cell? w _ hw275_0)).trans hw275_0), ((HB.out.cell (World.block_lt_of_cell? w _ hw275_1)).trans hw275_1), ((HB.out.cell (World.block_lt_of_cell? w _ hw275_2)).trans hw275_2), ((HB.out.cell (World.block_lt_of_cell? w _ hw275_3)).trans hw275_3), ((HB.out.cell (World.block_lt_of_cell? w _ hw275_4)).trans hw275_4), ((HB.out.cell (World.block_lt_of_cell? w _ hw281_0)).trans hw281_0), ((HB.out.cell (World.block_lt_of_cell? w _ hw281_1)).trans hw281_1), ((HB.out.cell (World.block_lt_of_cell? w _ hw281_2)).trans hw281_2), ((HB.out.cell (World.block_lt_of_cell? w _ hw281_3)).trans hw281_3), ((HB.out.cell (World.block_lt_of_cell? w _ hw281_4)).trans hw281_4)⟩ (fun hHeld => ?_)
                   clear hK K
                   refine norm_ (a' := ?_) ?_ ?_
                   rotate_left
                   ·show Act.put _ (some 12) _ = _
                    simp only [Act.put, List.setIfInBounds_toArray, List.set_cons_zero, List.set_cons_succ, i64_w, i32_w]
                    rfl
                   exact norm_ (by first | (simp only [putAll, Act.put, List.setIfInBounds_toArray, List.set_cons_zero, List.set_cons_succ]; done) | (simp only [putAll, Act.put, List.setIfInBounds_toArray, List.set_cons_zero, List.set_cons_succ]; rfl)) (hJ5_11_13 (gb288) _ ⟨hHeld, (by (with_reducible repeat (first | apply Kd.S_alloc | apply Kd.S_drewN | apply Kd.S_drew)); exact HO_8.out), (zB BK288), GW288.out, GE288.out, (zW1 HB GE288)⟩)
                ·skip
                 rintro ⟨gb287, gb288⟩ w32 ⟨hS_, h0_, h1_, h2_, h3_, h4_, h5_, h6_, h7_, h8_, h9_⟩
                 have n0_ : Aside0 (Kd.S (Kd.slice 3 (Kd.int .i64)) 45 w32 w.heap.size (fun _ => True) u8 x8_3) := ⟨h0_⟩; have n1_ : Aside0 (w32.heap[gb287]? = some (.cells #[.int .i64 0, .string (⟨#[]⟩ : ByteArray), .int .i64 0, .int .i64 0, .int .i64 0] 42 (0, 0))) := ⟨h1_⟩; have n2_ : Aside0 (w32.heap[gb288]? = some (.cells #[.int .i64 0, .string (⟨#[]⟩ : ByteArray), .int .i64 0, .int .i64 0, .int .i64 0] 42 (0, 0))) := ⟨h2_⟩; have n3_ : Aside0 (w.heap.size ≤ gb287) := ⟨h3_⟩; have n4_ : Aside0 (w.heap.size ≤ gb287) := ⟨h4_⟩; have n5_ : Aside0 (gb288 ≠ gb287) := ⟨h5_⟩; have n6_ : Aside0 (gb287 ≠ gb288) := ⟨h6_⟩; have n7_ : Aside0 (w.heap.size ≤ gb288) := ⟨h7_⟩; have n8_ : Aside0 (w.heap.size ≤ gb288) := ⟨h8_⟩; have n9_ : Aside0 (Below w.heap.size w w32) := ⟨h9_⟩; clear HO_8; clear HB; clear h0_ h1_ h2_ h3_ h4_ h5_ h6_ h7_ h8_ h9_; have HO_8 := n0_; have BK287 := n1_; have BK288 := n2_; have GW287 := n3_; have GE287 := n4_; have NB288_287 := n5_; have NB287_288 := n6_; have GW288 := n7_; have GE288 := n8_; have HB := n9_; clear n0_ n1_ n2_ n3_ n4_ n5_ n6_ n7_ n8_ n9_; have hHeld : w32.cell? (ad275.add ((x9_2).toNat * 5)) = some (.int .i64 ((rd_T42 l0 x9_2).f0)) ∧ w32.cell? ⟨(ad275.add ((x9_2).toNat * 5)).block, (ad275.add ((x9_2).toNat * 5)).off + 1, none⟩ = some (.string ((rd_T42 l0 x9_2).f1)) ∧ w32.cell? ⟨(ad275.add ((x9_2).toNat * 5)).block, (ad275.add ((x9_2).toNat * 5)).off + 2, none⟩ = some (.int .i64 ((rd_T42 l0 x9_2).f2)) ∧ w32.cell? ⟨(ad275.add ((x9_2).toNat * 5)).block, (ad275.add ((x9_2).toNat * 5)).off + 3, none⟩ = some (.int .i64 ((rd_T42 l0 x9_2).f3)) ∧ w32.cell? ⟨(ad275.add ((x9_2).toNat * 5)).block, (ad275.add ((x9_2).toNat * 5)).off + 4, none⟩ = some (.int .i64 ((rd_T42 l0 x9_2).f4)) ∧ w32.cell? (ad275.add ((x10_3).toNat * 5)) = some (.int .i64 ((rd_T42 l0 x10_3).f0)) ∧ w32.cell? ⟨(ad275.add ((x10_3).toNat * 5)).block, (ad275.add ((x10_3).toNat * 5)).off + 1, none⟩ = some (.string ((rd_T42 l0 x10_3).f1)) ∧ w32.cell? ⟨(ad275.add ((x10_3).toNat * 5)).block, (ad275.add ((x10_3).toNat * 5)).off + 2, none⟩ = some (.int .i64 ((rd_T42 l0 x10_3).f2)) ∧ w32.cell? ⟨(ad275.add ((x10_3).toNat * 5)).block, (ad275.add ((x10_3).toNat * 5)).off + 3, none⟩ = some (.int .i64 ((rd_T42 l0 x10_3).f3)) ∧ w32.cell? ⟨(ad275.add ((x10_3).toNat * 5)).block, (ad275.add ((x10_3).toNat * 5)).off + 4, none⟩ = some (.int .i64 ((rd_T42 l0 x10_3).f4)) := hS_
                 refine norm_ (a' := ?_) ?_ ?_
                 rotate_left
                 ·simp only [putAll, Act.put, List.setIfInBounds_toArray, List.set_cons_zero, List.set_cons_succ]
                  rfl
                 refine one_ (i := 11) (N := some 53) #[true, true, true, true, true, true, true, true, true, true, true, true, true, true, false, false] rfl rfl (one_of HT_.out (by kernel_rfl)) (by decide) (fun K hK => ?_)
                 refine goes_ Tryd.func20 (by kernel_rfl) rfl #[.agg #[.int .i64 ((rd_T42 l0 x10_3).f0), .string ((rd_T42 l0 x10_3).f1), .int .i64 ((rd_T42 l0 x10_3).f2), .int .i64 ((rd_T42 l0 x10_3).f3), .int .i64 ((rd_T42 l0 x10_3).f4)], .int .i64 a1] (by rfl) rfl rfl (zM) ?_
                 with_reducible refine (spec_l3Faded.calls ((rd_T42 l0 x10_3).f0) ((rd_T42 l0 x10_3).f1) ((rd_T42 l0 x10_3).f2) ((rd_T42 l0 x10_3).f3) ((rd_T42 l0 x10_3).f4) a1 t282 t283 t284 t285 t286 _ A22.out).mono ?_
                 rintro e w33 ⟨rfl, hb⟩
                 refine ⟨_, rfl, ?_⟩
                 have n0_ := zA (Kd.S_below (by (with_reducible repeat (first | apply Kd.S_alloc | apply Kd.S_drewN | apply Kd.S_drew)); exact HO_8.out) hb); have n1_ := zA (blk_below (g := gb287) (o := .cells #[.int .i64 0, .string (⟨#[]⟩ : ByteArray), .int .i64 0, .int .i64 0, .int .i64 0] 42 (0, 0)) (zB BK287) hb); have n2_ := zA (blk_below (g := gb288) (o := .cells #[.int .i64 0, .string (⟨#[]⟩ : ByteArray), .int .i64 0, .int .i64 0, .int .i64 0] 42 (0, 0)) (zB BK288) hb); have n3_ := zA (below_step (zW2 HB GE287 GE288) hb); clear HO_8; clear BK287; clear BK288; clear HB; have HO_8 := n0_; have BK287 := n1_; have BK288 := n2_; have HB := n3_; clear n0_ n1_ n2_ n3_; (try clear hb); (try clear hb2); (try clear hk); (try clear hi)
                 refine hK.out _ _ ⟨((HB.out.cell (World.block_lt_of_cell? w _ hw275_0)).trans hw275_0), ((HB.out.cell (World.block_lt_of_cell? w _ hw275_1)).trans hw275_1), ((HB.out.cell (World.block_lt_of_cell? w _ hw275_2)).trans hw275_2), ((HB.out.cell (World.block_lt_of_cell? w _ hw275_3)).trans hw275_3), ((HB.out.cell (World.block_lt_of_cell? w _ hw275_4)).trans hw275_4), ((HB.out.cell (World.block_lt_of_cell? w _ hw281_0)).trans hw281_0), ((HB.out.cell (World.block_lt_of_cell? w _ hw281_1)).trans hw281_1), ((HB.out.cell (World.block_lt_of_cell? w _ hw281_2)).trans hw281_2), ((HB.out.cell (World.block_lt_of_cell? w _ hw281_3)).trans hw281_3), ((HB.out.cell (World.block_lt_of_cell? w _ hw281_4)).trans hw281_4)⟩ (fun hHeld => ?_)
                 clear hK K
                 refine norm_ (a' := ?_) ?_ ?_
                 rotate_left
                 ·show Act.put _ (some 53) _ = _
                  simp only [Act.put, List.setIfInBounds_toArray, List.set_cons_zero, List.set_cons_succ, i64_w, i32_w]
                  rfl
                 exact norm_ (by first | (simp only [putAll, Act.put, List.setIfInBounds_toArray, List.set_cons_zero, List.set_cons_succ]; done) | (simp only [putAll, Act.put, List.setIfInBounds_toArray, List.set_cons_zero, List.set_cons_succ]; rfl)) (hJ5_11_12_13 (gb287, gb288) _ ⟨hHeld, (by (with_reducible repeat (first | apply Kd.S_alloc | apply Kd.S_drewN | apply Kd.S_drew)); exact HO_8.out), (zB BK287), (zB BK288), GW287.out, GE287.out, NB288_287.out, NB287_288.out, GW288.out, GE288.out, (zW2 HB GE287 GE288)⟩)
               ·skip
                rintro gb288 w32 ⟨hS_, h0_, h1_, h2_, h3_, h4_⟩
                have n0_ : Aside0 (Kd.S (Kd.slice 3 (Kd.int .i64)) 45 w32 w.heap.size (fun _ => True) u8 x8_3) := ⟨h0_⟩; have n1_ : Aside0 (w32.heap[gb288]? = some (.cells #[.int .i64 0, .string (⟨#[]⟩ : ByteArray), .int .i64 0, .int .i64 0, .int .i64 0] 42 (0, 0))) := ⟨h1_⟩; have n2_ : Aside0 (w.heap.size ≤ gb288) := ⟨h2_⟩; have n3_ : Aside0 (w.heap.size ≤ gb288) := ⟨h3_⟩; have n4_ : Aside0 (Below w.heap.size w w32) := ⟨h4_⟩; clear HO_8; clear HB; clear h0_ h1_ h2_ h3_ h4_; have HO_8 := n0_; have BK288 := n1_; have GW288 := n2_; have GE288 := n3_; have HB := n4_; clear n0_ n1_ n2_ n3_ n4_; have hHeld : w32.cell? (ad275.add ((x9_2).toNat * 5)) = some (.int .i64 ((rd_T42 l0 x9_2).f0)) ∧ w32.cell? ⟨(ad275.add ((x9_2).toNat * 5)).block, (ad275.add ((x9_2).toNat * 5)).off + 1, none⟩ = some (.string ((rd_T42 l0 x9_2).f1)) ∧ w32.cell? ⟨(ad275.add ((x9_2).toNat * 5)).block, (ad275.add ((x9_2).toNat * 5)).off + 2, none⟩ = some (.int .i64 ((rd_T42 l0 x9_2).f2)) ∧ w32.cell? ⟨(ad275.add ((x9_2).toNat * 5)).block, (ad275.add ((x9_2).toNat * 5)).off + 3, none⟩ = some (.int .i64 ((rd_T42 l0 x9_2).f3)) ∧ w32.cell? ⟨(ad275.add ((x9_2).toNat * 5)).block, (ad275.add ((x9_2).toNat * 5)).off + 4, none⟩ = some (.int .i64 ((rd_T42 l0 x9_2).f4)) ∧ w32.cell? (ad275.add ((x10_3).toNat * 5)) = some (.int .i64 ((rd_T42 l0 x10_3).f0)) ∧ w32.cell? ⟨(ad275.add ((x10_3).toNat * 5)).block, (ad275.add ((x10_3).toNat * 5)).off + 1, none⟩ = some (.string ((rd_T42 l0 x10_3).f1)) ∧ w32.cell? ⟨(ad275.add ((x10_3).toNat * 5)).block, (ad275.add ((x10_3).toNat * 5)).off + 2, none⟩ = some (.int .i64 ((rd_T42 l0 x10_3).f2)) ∧ w32.cell? ⟨(ad275.add ((x10_3).toNat * 5)).block, (ad275.add ((x10_3).toNat * 5)).off + 3, none⟩ = some (.int .i64 ((rd_T42 l0 x10_3).f3)) ∧ w32.cell? ⟨(ad275.add ((x10_3).toNat * 5)).block, (ad275.add ((x10_3).toNat * 5)).off + 4, none⟩ = some (.int .i64 ((rd_T42 l0 x10_3).f4)) := hS_
                refine norm_ (a' := ?_) ?_ ?_
                rotate_left
                ·simp only [putAll, Act.put, List.setIfInBounds_toArray, List.set_cons_zero, List.set_cons_succ]
                 rfl
                refine one_ (i := 12) (N := some 11) #[true, true, true, true, true, true, true, true, true, true, true, true, true, true, false, false] rfl rfl (one_of HT_.out (by kernel_rfl)) (by decide) (fun K hK => ?_)
                refine box_step ?hg (N := 11) ?hd (cs := #[.int .i64 0, .string (⟨#[]⟩ : ByteArray), .int .i64 0, .int .i64 0, .int .i64 0]) (t := 42) ?hr ?_; (case hd => rfl); (case hg => rfl); (case hr => first | (go_simp; done) | (go_simp; rfl))
                intro gb287 hg w33 hbox hb
                have n0_ := zA (Kd.S_below (by (with_reducible repeat (first | apply Kd.S_alloc | apply Kd.S_drewN | apply Kd.S_drew)); exact HO_8.out) hb); have n1_ := zA (blk_below (g := gb288) (o := .cells #[.int .i64 0, .string (⟨#[]⟩ : ByteArray), .int .i64 0, .int .i64 0, .int .i64 0] 42 (0, 0)) (zB BK288) hb); have n2_ := zA (below_step (zW1 HB GE288) hb); have n3_ := zA (hbox); have n4_ := zA ((by rw [hg]; exact (below_size (zW1 HB GE288)) : w.heap.size ≤ gb287)); have n5_ := zA ((by rw [hg]; exact (below_size (zW1 HB GE288)) : w.heap.size ≤ gb287)); have n6_ := zA ((by rw [hg]; exact Nat.ne_of_lt (blk_lt (g := gb288) (o := .cells #[.int .i64 0, .string (⟨#[]⟩ : ByteArray), .int .i64 0, .int .i64 0, .int .i64 0] 42 (0, 0)) (zB BK288)) : gb288 ≠ gb287)); have n7_ := zA ((by rw [hg]; exact Nat.ne_of_gt (blk_lt (g := gb288) (o := .cells #[.int .i64 0, .string (⟨#[]⟩ : ByteArray), .int .i64 0, .int .i64 0, .int .i64 0] 42 (0, 0)) (zB BK288)) : gb287 ≠ gb288)); clear HO_8; clear BK288; clear HB; have HO_8 := n0_; have BK288 := n1_; have HB := n2_; have BK287 := n3_; have GW287 := n4_; have GE287 := n5_; have NB288_287 := n6_; have NB287_288 := n7_; clear n0_ n1_ n2_ n3_ n4_ n5_ n6_ n7_; clear hb hbox hg
                refine hK.out _ _ ⟨((HB.out.cell (World.block_lt_of_cell? w _ hw275_0)).trans hw275_0), ((HB.out.cell (World.block_lt_of_cell? w _ hw275_1)).trans hw275_1), ((HB.out.cell (World.block_lt_of_cell? w _ hw275_2)).trans hw275_2), ((HB.out.cell (World.block_lt_of_cell? w _ hw275_3)).trans hw275_3), ((HB.out.cell (World.block_lt_of_cell? w _ hw275_4)).trans hw275_4), ((HB.out.cell (World.block_lt_of_cell? w _ hw281_0)).trans hw281_0), ((HB.out.cell (World.block_lt_of_cell? w _ hw281_1)).trans hw281_1), ((HB.out.cell (World.block_lt_of_cell? w _ hw281_2)).trans hw281_2), ((HB.out.cell (World.block_lt_of_cell? w _ hw281_3)).trans hw281_3), ((HB.out.cell (World.block_lt_of_cell? w _ hw281_4)).trans hw281_4)⟩ (fun hHeld => ?_)
                clear hK K
                refine norm_ (a' := ?_) ?_ ?_
                rotate_left
                ·show Act.put _ (some 11) _ = _
                 simp only [Act.put, List.setIfInBounds_toArray, List.set_cons_zero, List.set_cons_succ, i64_w, i32_w]
                 rfl
                exact norm_ (by first | (simp only [putAll, Act.put, List.setIfInBounds_toArray, List.set_cons_zero, List.set_cons_succ]; done) | (simp only [putAll, Act.put, List.setIfInBounds_toArray, List.set_cons_zero, List.set_cons_succ]; rfl)) (hJ5_11_12_13 (gb287, gb288) _ ⟨hHeld, (by (with_reducible repeat (first | apply Kd.S_alloc | apply Kd.S_drewN | apply Kd.S_drew)); exact HO_8.out), (zB BK287), (zB BK288), GW287.out, GE287.out, NB288_287.out, NB287_288.out, GW288.out, GE288.out, (zW2 HB GE288 GE287)⟩)
              ·skip
               rintro gb287 w32 ⟨hS_, h0_, h1_, h2_, h3_, h4_⟩
               have n0_ : Aside0 (Kd.S (Kd.slice 3 (Kd.int .i64)) 45 w32 w.heap.size (fun _ => True) u8 x8_3) := ⟨h0_⟩; have n1_ : Aside0 (w32.heap[gb287]? = some (.cells #[.int .i64 0, .string (⟨#[]⟩ : ByteArray), .int .i64 0, .int .i64 0, .int .i64 0] 42 (0, 0))) := ⟨h1_⟩; have n2_ : Aside0 (w.heap.size ≤ gb287) := ⟨h2_⟩; have n3_ : Aside0 (w.heap.size ≤ gb287) := ⟨h3_⟩; have n4_ : Aside0 (Below w.heap.size w w32) := ⟨h4_⟩; clear HO_8; clear HB; clear h0_ h1_ h2_ h3_ h4_; have HO_8 := n0_; have BK287 := n1_; have GW287 := n2_; have GE287 := n3_; have HB := n4_; clear n0_ n1_ n2_ n3_ n4_; have hHeld : w32.cell? (ad275.add ((x9_2).toNat * 5)) = some (.int .i64 ((rd_T42 l0 x9_2).f0)) ∧ w32.cell? ⟨(ad275.add ((x9_2).toNat * 5)).block, (ad275.add ((x9_2).toNat * 5)).off + 1, none⟩ = some (.string ((rd_T42 l0 x9_2).f1)) ∧ w32.cell? ⟨(ad275.add ((x9_2).toNat * 5)).block, (ad275.add ((x9_2).toNat * 5)).off + 2, none⟩ = some (.int .i64 ((rd_T42 l0 x9_2).f2)) ∧ w32.cell? ⟨(ad275.add ((x9_2).toNat * 5)).block, (ad275.add ((x9_2).toNat * 5)).off + 3, none⟩ = some (.int .i64 ((rd_T42 l0 x9_2).f3)) ∧ w32.cell? ⟨(ad275.add ((x9_2).toNat * 5)).block, (ad275.add ((x9_2).toNat * 5)).off + 4, none⟩ = some (.int .i64 ((rd_T42 l0 x9_2).f4)) ∧ w32.cell? (ad275.add ((x10_3).toNat * 5)) = some (.int .i64 ((rd_T42 l0 x10_3).f0)) ∧ w32.cell? ⟨(ad275.add ((x10_3).toNat * 5)).block, (ad275.add ((x10_3).toNat * 5)).off + 1, none⟩ = some (.string ((rd_T42 l0 x10_3).f1)) ∧ w32.cell? ⟨(ad275.add ((x10_3).toNat * 5)).block, (ad275.add ((x10_3).toNat * 5)).off + 2, none⟩ = some (.int .i64 ((rd_T42 l0 x10_3).f2)) ∧ w32.cell? ⟨(ad275.add ((x10_3).toNat * 5)).block, (ad275.add ((x10_3).toNat * 5)).off + 3, none⟩ = some (.int .i64 ((rd_T42 l0 x10_3).f3)) ∧ w32.cell? ⟨(ad275.add ((x10_3).toNat * 5)).block, (ad275.add ((x10_3).toNat * 5)).off + 4, none⟩ = some (.int .i64 ((rd_T42 l0 x10_3).f4)) := hS_
               refine norm_ (a' := ?_) ?_ ?_
               rotate_left
               ·simp only [putAll, Act.put, List.setIfInBounds_toArray, List.set_cons_zero, List.set_cons_succ]
                rfl
               refine one_ (i := 13) (N := some 12) #[true, true, true, true, true, true, true, true, true, true, true, true, true, true, false, false] rfl rfl (one_of HT_.out (by kernel_rfl)) (by decide) (fun K hK => ?_)
               refine box_step ?hg (N := 12) ?hd (cs := #[.int .i64 0, .string (⟨#[]⟩ : ByteArray), .int .i64 0, .int .i64 0, .int .i64 0]) (t := 42) ?hr ?_; (case hd => rfl); (case hg => rfl); (case hr => first | (go_simp; done) | (go_simp; rfl))
               intro gb288 hg w33 hbox hb
               have n0_ := zA (Kd.S_below (by (with_reducible repeat (first | apply Kd.S_alloc | apply Kd.S_drewN | apply Kd.S_drew)); exact HO_8.out) hb); have n1_ := zA (blk_below (g := gb287) (o := .cells #[.int .i64 0, .string (⟨#[]⟩ : ByteArray), .int .i64 0, .int .i64 0, .int .i64 0] 42 (0, 0)) (zB BK287) hb); have n2_ := zA (below_step (zW1 HB GE287) hb); have n3_ := zA (hbox); have n4_ := zA ((by rw [hg]; exact (below_size (zW1 HB GE287)) : w.heap.size ≤ gb288)); have n5_ := zA ((by rw [hg]; exact (below_size (zW1 HB GE287)) : w.heap.size ≤ gb288)); have n6_ := zA ((by rw [hg]; exact Nat.ne_of_lt (blk_lt (g := gb287) (o := .cells #[.int .i64 0, .string (⟨#[]⟩ : ByteArray), .int .i64 0, .int .i64 0, .int .i64 0] 42 (0, 0)) (zB BK287)) : gb287 ≠ gb288)); have n7_ := zA ((by rw [hg]; exact Nat.ne_of_gt (blk_lt (g := gb287) (o := .cells #[.int .i64 0, .string (⟨#[]⟩ : ByteArray), .int .i64 0, .int .i64 0, .int .i64 0] 42 (0, 0)) (zB BK287)) : gb288 ≠ gb287)); clear HO_8; clear BK287; clear HB; have HO_8 := n0_; have BK287 := n1_; have HB := n2_; have BK288 := n3_; have GW288 := n4_; have GE288 := n5_; have NB287_288 := n6_; have NB288_287 := n7_; clear n0_ n1_ n2_ n3_ n4_ n5_ n6_ n7_; clear hb hbox hg
               refine hK.out _ _ ⟨((HB.out.cell (World.block_lt_of_cell? w _ hw275_0)).trans hw275_0), ((HB.out.cell (World.block_lt_of_cell? w _ hw275_1)).trans hw275_1), ((HB.out.cell (World.block_lt_of_cell? w _ hw275_2)).trans hw275_2), ((HB.out.cell (World.block_lt_of_cell? w _ hw275_3)).trans hw275_3), ((HB.out.cell (World.block_lt_of_cell? w _ hw275_4)).trans hw275_4), ((HB.out.cell (World.block_lt_of_cell? w _ hw281_0)).trans hw281_0), ((HB.out.cell (World.block_lt_of_cell? w _ hw281_1)).trans hw281_1), ((HB.out.cell (World.block_lt_of_cell? w _ hw281_2)).trans hw281_2), ((HB.out.cell (World.block_lt_of_cell? w _ hw281_3)).trans hw281_3), ((HB.out.cell (World.block_lt_of_cell? w _ hw281_4)).trans hw281_4)⟩ (fun hHeld => ?_)
               clear hK K
               refine norm_ (a' := ?_) ?_ ?_
               rotate_left
               ·show Act.put _ (some 12) _ = _
                simp only [Act.put, List.setIfInBounds_toArray, List.set_cons_zero, List.set_cons_succ, i64_w, i32_w]
                rfl
               exact norm_ (by first | (simp only [putAll, Act.put, List.setIfInBounds_toArray, List.set_cons_zero, List.set_cons_succ]; done) | (simp only [putAll, Act.put, List.setIfInBounds_toArray, List.set_cons_zero, List.set_cons_succ]; rfl)) (hJ5_11_12_13 (gb287, gb288) _ ⟨hHeld, (by (with_reducible repeat (first | apply Kd.S_alloc | apply Kd.S_drewN | apply Kd.S_drew)); exact HO_8.out), (zB BK287), (zB BK288), GW287.out, GE287.out, NB288_287.out, NB287_288.out, GW288.out, GE288.out, (zW2 HB GE287 GE288)⟩)
             rintro ⟨gb287, gb288⟩ w33 ⟨hS_, h0_, h1_, h2_, h3_, h4_, h5_, h6_, h7_, h8_, h9_⟩
             have n0_ : Aside0 (Kd.S (Kd.slice 3 (Kd.int .i64)) 45 w33 w.heap.size (fun _ => True) u8 x8_3) := ⟨h0_⟩; have n1_ : Aside0 (w33.heap[gb287]? = some (.cells #[.int .i64 0, .string (⟨#[]⟩ : ByteArray), .int .i64 0, .int .i64 0, .int .i64 0] 42 (0, 0))) := ⟨h1_⟩; have n2_ : Aside0 (w33.heap[gb288]? = some (.cells #[.int .i64 0, .string (⟨#[]⟩ : ByteArray), .int .i64 0, .int .i64 0, .int .i64 0] 42 (0, 0))) := ⟨h2_⟩; have n3_ : Aside0 (w.heap.size ≤ gb287) := ⟨h3_⟩; have n4_ : Aside0 (w.heap.size ≤ gb287) := ⟨h4_⟩; have n5_ : Aside0 (gb288 ≠ gb287) := ⟨h5_⟩; have n6_ : Aside0 (gb287 ≠ gb288) := ⟨h6_⟩; have n7_ : Aside0 (w.heap.size ≤ gb288) := ⟨h7_⟩; have n8_ : Aside0 (w.heap.size ≤ gb288) := ⟨h8_⟩; have n9_ : Aside0 (Below w.heap.size w w33) := ⟨h9_⟩; clear HO_8; clear HB; clear h0_ h1_ h2_ h3_ h4_ h5_ h6_ h7_ h8_ h9_; have HO_8 := n0_; have BK287 := n1_; have BK288 := n2_; have GW287 := n3_; have GE287 := n4_; have NB288_287 := n5_; have NB287_288 := n6_; have GW288 := n7_; have GE288 := n8_; have HB := n9_; clear n0_ n1_ n2_ n3_ n4_ n5_ n6_ n7_ n8_ n9_; have hHeld : w33.cell? (ad275.add ((x9_2).toNat * 5)) = some (.int .i64 ((rd_T42 l0 x9_2).f0)) ∧ w33.cell? ⟨(ad275.add ((x9_2).toNat * 5)).block, (ad275.add ((x9_2).toNat * 5)).off + 1, none⟩ = some (.string ((rd_T42 l0 x9_2).f1)) ∧ w33.cell? ⟨(ad275.add ((x9_2).toNat * 5)).block, (ad275.add ((x9_2).toNat * 5)).off + 2, none⟩ = some (.int .i64 ((rd_T42 l0 x9_2).f2)) ∧ w33.cell? ⟨(ad275.add ((x9_2).toNat * 5)).block, (ad275.add ((x9_2).toNat * 5)).off + 3, none⟩ = some (.int .i64 ((rd_T42 l0 x9_2).f3)) ∧ w33.cell? ⟨(ad275.add ((x9_2).toNat * 5)).block, (ad275.add ((x9_2).toNat * 5)).off + 4, none⟩ = some (.int .i64 ((rd_T42 l0 x9_2).f4)) ∧ w33.cell? (ad275.add ((x10_3).toNat * 5)) = some (.int .i64 ((rd_T42 l0 x10_3).f0)) ∧ w33.cell? ⟨(ad275.add ((x10_3).toNat * 5)).block, (ad275.add ((x10_3).toNat * 5)).off + 1, none⟩ = some (.string ((rd_T42 l0 x10_3).f1)) ∧ w33.cell? ⟨(ad275.add ((x10_3).toNat * 5)).block, (ad275.add ((x10_3).toNat * 5)).off + 2, none⟩ = some (.int .i64 ((rd_T42 l0 x10_3).f2)) ∧ w33.cell? ⟨(ad275.add ((x10_3).toNat * 5)).block, (ad275.add ((x10_3).toNat * 5)).off + 3, none⟩ = some (.int .i64 ((rd_T42 l0 x10_3).f3)) ∧ w33.cell? ⟨(ad275.add ((x10_3).toNat * 5)).block, (ad275.add ((x10_3).toNat * 5)).off + 4, none⟩ = some (.int .i64 ((rd_T42 l0 x10_3).f4)) := hS_
             refine norm_ (a' := ?_) ?_ ?_
             rotate_left
             ·simp only [putAll, Act.put, List.setIfInBounds_toArray, List.set_cons_zero, List.set_cons_succ]
              rfl
             refine one_ (i := 14) (N := none) #[true, true, true, true, true, true, true, true, true, true, true, true, true, true, true, false] rfl rfl (one_of HT_.out (by kernel_rfl)) (by decide) (fun K hK => ?_)
             have hs34 : w33.cell? ⟨gb287, 0, none⟩ = some (.int .i64 0) := (blk_cell BK287.out 0).trans rfl; have hfs34 := blk_frozen BK287.out 0; have hns34_1 := NB288_287.out; have hms34_1 := NB287_288.out; have hs35 : w33.cell? ⟨gb287, 1, none⟩ = some (.string (⟨#[]⟩ : ByteArray)) := (blk_cell BK287.out 1).trans rfl; have hfs35 := blk_frozen BK287.out 1; have hns35_1 := NB288_287.out; have hms35_1 := NB287_288.out; have hs36 : w33.cell? ⟨gb287, 2, none⟩ = some (.int .i64 0) := (blk_cell BK287.out 2).trans rfl; have hfs36 := blk_frozen BK287.out 2; have hns36_1 := NB288_287.out; have hms36_1 := NB287_288.out; have hs37 : w33.cell? ⟨gb287, 3, none⟩ = some (.int .i64 0) := (blk_cell BK287.out 3).trans rfl; have hfs37 := blk_frozen BK287.out 3; have hns37_1 := NB288_287.out; have hms37_1 := NB287_288.out; have hs38 : w33.cell? ⟨gb287, 4, none⟩ = some (.int .i64 0) := (blk_cell BK287.out 4).trans rfl; have hfs38 := blk_frozen BK287.out 4; have hns38_1 := NB288_287.out; have hms38_1 := NB287_288.out
             refine skip_ (w1 := ?_) (by rfl) rfl ?_ ?_
             rotate_left
             ·go_simp
              rfl
             refine hK.out _ _ ⟨((cell_far (p := ⟨gb287, _, none⟩) (zN (World.block_lt_of_cell? _ _ hw275_0) GW287.out) _).trans (((cell_far (p := ⟨gb287, _, none⟩) (zN (World.block_lt_of_cell? _ _ hw275_0) GW287.out) _).trans (((cell_far (p := ⟨gb287, _, none⟩) (zN (World.block_lt_of_cell? _ _ hw275_0) GW287.out) _).trans (((cell_far (p := ⟨gb287, _, none⟩) (zN (World.block_lt_of_cell? _ _ hw275_0) GW287.out) _).trans (((cell_far (p := ⟨gb287, _, none⟩) (zN (World.block_lt_of_cell? _ _ hw275_0) GW287.out) _).trans (hHeld.1)))))))))), ((cell_far (p := ⟨gb287, _, none⟩) (zN (World.block_lt_of_cell? _ _ hw275_1) GW287.out) _).trans (((cell_far (p := ⟨gb287, _, none⟩) (zN (World.block_lt_of_cell? _ _ hw275_1) GW287.out) _).trans (((cell_far (p := ⟨gb287, _, none⟩) (zN (World.block_lt_of_cell? _ _ hw275_1) GW287.out) _).trans (((cell_far (p := ⟨gb287, _, none⟩) (zN (World.block_lt_of_cell? _ _ hw275_1) GW287.out) _).trans (((cell_far (p := ⟨gb287, _, none⟩) (zN (World.block_lt_of_cell? _ _ hw275_1) GW287.out) _).trans (hHeld.2.1)))))))))), ((cell_far (p := ⟨gb287, _, none⟩) (zN (World.block_lt_of_cell? _ _ hw275_2) GW287.out) _).trans (((cell_far (p := ⟨gb287, _, none⟩) (zN (World.block_lt_of_cell? _ _ hw275_2) GW287.out) _).trans (((cell_far (p := ⟨gb287, _, none⟩) (zN (World.block_lt_of_cell? _ _ hw275_2) GW287.out) _).trans (((cell_far (p := ⟨gb287, _, none⟩) (zN (World.block_lt_of_cell? _ _ hw275_2) GW287.out) _).trans (((cell_far (p := ⟨gb287, _, none⟩) (zN (World.block_lt_of_cell? _ _ hw275_2) GW287.out) _).trans (hHeld.2.2.1)))))))))), ((cell_far (p := ⟨gb287, _, none⟩) (zN (World.block_lt_of_cell? _ _ hw275_3) GW287.out) _).trans (((cell_far (p := ⟨gb287, _, none⟩) (zN (World.block_lt_of_cell? _ _ hw275_3) GW287.out) _).trans (((cell_far (p := ⟨gb287, _, none⟩) (zN (World.block_lt_of_cell? _ _ hw275_3) GW287.out) _).trans (((cell_far (p := ⟨gb287, _, none⟩) (zN (World.block_lt_of_cell? _ _ hw275_3) GW287.out) _).trans (((cell_far (p := ⟨gb287, _, none⟩) (zN (World.block_lt_of_cell? _ _ hw275_3) GW287.out) _).trans (hHeld.2.2.2.1)))))))))), ((cell_far (p := ⟨gb287, _, none⟩) (zN (World.block_lt_of_cell? _ _ hw275_4) GW287.out) _).trans (((cell_far (p := ⟨gb287, _, none⟩) (zN (World.block_lt_of_cell? _ _ hw275_4) GW287.out) _).trans (((cell_far (p := ⟨gb287, _, none⟩) (zN (World.block_lt_of_cell? _ _ hw275_4) GW287.out) _).trans (((cell_far (p := ⟨gb287, _, none⟩) (zN (World.block_lt_of_cell? _ _ hw275_4) GW287.out) _).trans (((cell_far (p := ⟨gb287, _, none⟩) (zN (World.block_lt_of_cell? _ _ hw275_4) GW287.out) _).trans (hHeld.2.2.2.2.1)))))))))), ((cell_far (p := ⟨gb287, _, none⟩) (zN (World.block_lt_of_cell? _ _ hw281_0) GW287.out) _).trans (((cell_far (p := ⟨gb287, _, none⟩) (zN (World.block_lt_of_cell? _ _ hw281_0) GW287.out) _).trans (((cell_far (p := ⟨gb287, _, none⟩) (zN (World.block_lt_of_cell? _ _ hw281_0) GW287.out) _).trans (((cell_far (p := ⟨gb287, _, none⟩) (zN (World.block_lt_of_cell? _ _ hw281_0) GW287.out) _).trans (((cell_far (p := ⟨gb287, _, none⟩) (zN (World.block_lt_of_cell? _ _ hw281_0) GW287.out) _).trans (hHeld.2.2.2.2.2.1)))))))))), ((cell_far (p := ⟨gb287, _, none⟩) (zN (World.block_lt_of_cell? _ _ hw281_1) GW287.out) _).trans (((cell_far (p := ⟨gb287, _, none⟩) (zN (World.block_lt_of_cell? _ _ hw281_1) GW287.out) _).trans (((cell_far (p := ⟨gb287, _, none⟩) (zN (World.block_lt_of_cell? _ _ hw281_1) GW287.out) _).trans (((cell_far (p := ⟨gb287, _, none⟩) (zN (World.block_lt_of_cell? _ _ hw281_1) GW287.out) _).trans (((cell_far (p := ⟨gb287, _, none⟩) (zN (World.block_lt_of_cell? _ _ hw281_1) GW287.out) _).trans (hHeld.2.2.2.2.2.2.1)))))))))), ((cell_far (p := ⟨gb287, _, none⟩) (zN (World.block_lt_of_cell? _ _ hw281_2) GW287.out) _).trans (((cell_far (p := ⟨gb287, _, none⟩) (zN (World.block_lt_of_cell? _ _ hw281_2) GW287.out) _).trans (((cell_far (p := ⟨gb287, _, none⟩) (zN (World.block_lt_of_cell? _ _ hw281_2) GW287.out) _).trans (((cell_far (p := ⟨gb287, _, none⟩) (zN (World.block_lt_of_cell? _ _ hw281_2) GW287.out) _).trans (((cell_far (p := ⟨gb287, _, none⟩) (zN (World.block_lt_of_cell? _ _ hw281_2) GW287.out) _).trans (hHeld.2.2.2.2.2.2.2.1)))))))))), ((cell_far (p := ⟨gb287, _, none⟩) (zN (World.block_lt_of_cell? _ _ hw281_3) GW287.out) _).trans (((cell_far (p := ⟨gb287, _, none⟩) (zN (World.block_lt_of_cell? _ _ hw281_3) GW287.out) _).trans (((cell_far (p := ⟨gb287, _, none⟩) (zN (World.block_lt_of_cell? _ _ hw281_3) GW287.out) _).trans (((cell_far (p := ⟨gb287, _, none⟩) (zN (World.block_lt_of_cell? _ _ hw281_3) GW287.out) _).trans (((cell_far (p := ⟨gb287, _, none⟩) (zN (World.block_lt_of_cell? _ _ hw281_3) GW287.out) _).trans (hHeld.2.2.2.2.2.2.2.2.1)))))))))), ((cell_far (p := ⟨gb287, _, none⟩) (zN (World.block_lt_of_cell? _ _ hw281_4) GW287.out) _).trans (((cell_far (p := ⟨gb287, _, none⟩) (zN (World.block_lt_of_cell? _ _ hw281_4) GW287.out) _).trans (((cell_far (p := ⟨gb287, _, none⟩) (zN (World.block_lt_of_cell? _ _ hw281_4) GW287.out) _).trans (((cell_far (p := ⟨gb287, _, none⟩) (zN (World.block_lt_of_cell? _ _ hw281_4) GW287.out) _).trans (((cell_far (p := ⟨gb287, _, none⟩) (zN (World.block_lt_of_cell? _ _ hw281_4) GW287.out) _).trans (hHeld.2.2.2.2.2.2.2.2.2))))))))))⟩ (fun hHeld => ?_)
             clear hK K
             refine one_ (i := 15) (N := none) #[true, true, true, true, true, true, true, true, true, true, true, true, true, true, true, true] rfl rfl (one_of HT_.out (by kernel_rfl)) (by decide) (fun K hK => ?_)
             have hs39 : w33.cell? ⟨gb288, 0, none⟩ = some (.int .i64 0) := (blk_cell BK288.out 0).trans rfl; have hfs39 := blk_frozen BK288.out 0; have hns39_0 := NB287_288.out; have hms39_0 := NB288_287.out; have hs40 : w33.cell? ⟨gb288, 1, none⟩ = some (.string (⟨#[]⟩ : ByteArray)) := (blk_cell BK288.out 1).trans rfl; have hfs40 := blk_frozen BK288.out 1; have hns40_0 := NB287_288.out; have hms40_0 := NB288_287.out; have hs41 : w33.cell? ⟨gb288, 2, none⟩ = some (.int .i64 0) := (blk_cell BK288.out 2).trans rfl; have hfs41 := blk_frozen BK288.out 2; have hns41_0 := NB287_288.out; have hms41_0 := NB288_287.out; have hs42 : w33.cell? ⟨gb288, 3, none⟩ = some (.int .i64 0) := (blk_cell BK288.out 3).trans rfl; have hfs42 := blk_frozen BK288.out 3; have hns42_0 := NB287_288.out; have hms42_0 := NB288_287.out; have hs43 : w33.cell? ⟨gb288, 4, none⟩ = some (.int .i64 0) := (blk_cell BK288.out 4).trans rfl; have hfs43 := blk_frozen BK288.out 4; have hns43_0 := NB287_288.out; have hms43_0 := NB288_287.out
             refine skip_ (w1 := ?_) (by rfl) rfl ?_ ?_
             rotate_left
             ·go_simp
              rfl
             refine hK.out _ _ ⟨((cell_far (p := ⟨gb288, _, none⟩) (zN (World.block_lt_of_cell? _ _ hw275_0) GW288.out) _).trans (((cell_far (p := ⟨gb288, _, none⟩) (zN (World.block_lt_of_cell? _ _ hw275_0) GW288.out) _).trans (((cell_far (p := ⟨gb288, _, none⟩) (zN (World.block_lt_of_cell? _ _ hw275_0) GW288.out) _).trans (((cell_far (p := ⟨gb288, _, none⟩) (zN (World.block_lt_of_cell? _ _ hw275_0) GW288.out) _).trans (((cell_far (p := ⟨gb288, _, none⟩) (zN (World.block_lt_of_cell? _ _ hw275_0) GW288.out) _).trans (hHeld.1)))))))))), ((cell_far (p := ⟨gb288, _, none⟩) (zN (World.block_lt_of_cell? _ _ hw275_1) GW288.out) _).trans (((cell_far (p := ⟨gb288, _, none⟩) (zN (World.block_lt_of_cell? _ _ hw275_1) GW288.out) _).trans (((cell_far (p := ⟨gb288, _, none⟩) (zN (World.block_lt_of_cell? _ _ hw275_1) GW288.out) _).trans (((cell_far (p := ⟨gb288, _, none⟩) (zN (World.block_lt_of_cell? _ _ hw275_1) GW288.out) _).trans (((cell_far (p := ⟨gb288, _, none⟩) (zN (World.block_lt_of_cell? _ _ hw275_1) GW288.out) _).trans (hHeld.2.1)))))))))), ((cell_far (p := ⟨gb288, _, none⟩) (zN (World.block_lt_of_cell? _ _ hw275_2) GW288.out) _).trans (((cell_far (p := ⟨gb288, _, none⟩) (zN (World.block_lt_of_cell? _ _ hw275_2) GW288.out) _).trans (((cell_far (p := ⟨gb288, _, none⟩) (zN (World.block_lt_of_cell? _ _ hw275_2) GW288.out) _).trans (((cell_far (p := ⟨gb288, _, none⟩) (zN (World.block_lt_of_cell? _ _ hw275_2) GW288.out) _).trans (((cell_far (p := ⟨gb288, _, none⟩) (zN (World.block_lt_of_cell? _ _ hw275_2) GW288.out) _).trans (hHeld.2.2.1)))))))))), ((cell_far (p := ⟨gb288, _, none⟩) (zN (World.block_lt_of_cell? _ _ hw275_3) GW288.out) _).trans (((cell_far (p := ⟨gb288, _, none⟩) (zN (World.block_lt_of_cell? _ _ hw275_3) GW288.out) _).trans (((cell_far (p := ⟨gb288, _, none⟩) (zN (World.block_lt_of_cell? _ _ hw275_3) GW288.out) _).trans (((cell_far (p := ⟨gb288, _, none⟩) (zN (World.block_lt_of_cell? _ _ hw275_3) GW288.out) _).trans (((cell_far (p := ⟨gb288, _, none⟩) (zN (World.block_lt_of_cell? _ _ hw275_3) GW288.out) _).trans (hHeld.2.2.2.1)))))))))), ((cell_far (p := ⟨gb288, _, none⟩) (zN (World.block_lt_of_cell? _ _ hw275_4) GW288.out) _).trans (((cell_far (p := ⟨gb288, _, none⟩) (zN (World.block_lt_of_cell? _ _ hw275_4) GW288.out) _).trans (((cell_far (p := ⟨gb288, _, none⟩) (zN (World.block_lt_of_cell? _ _ hw275_4) GW288.out) _).trans (((cell_far (p := ⟨gb288, _, none⟩) (zN (World.block_lt_of_cell? _ _ hw275_4) GW288.out) _).trans (((cell_far (p := ⟨gb288, _, none⟩) (zN (World.block_lt_of_cell? _ _ hw275_4) GW288.out) _).trans (hHeld.2.2.2.2.1)))))))))), ((cell_far (p := ⟨gb288, _, none⟩) (zN (World.block_lt_of_cell? _ _ hw281_0) GW288.out) _).trans (((cell_far (p := ⟨gb288, _, none⟩) (zN (World.block_lt_of_cell? _ _ hw281_0) GW288.out) _).trans (((cell_far (p := ⟨gb288, _, none⟩) (zN (World.block_lt_of_cell? _ _ hw281_0) GW288.out) _).trans (((cell_far (p := ⟨gb288, _, none⟩) (zN (World.block_lt_of_cell? _ _ hw281_0) GW288.out) _).trans (((cell_far (p := ⟨gb288, _, none⟩) (zN (World.block_lt_of_cell? _ _ hw281_0) GW288.out) _).trans (hHeld.2.2.2.2.2.1)))))))))), ((cell_far (p := ⟨gb288, _, none⟩) (zN (World.block_lt_of_cell? _ _ hw281_1) GW288.out) _).trans (((cell_far (p := ⟨gb288, _, none⟩) (zN (World.block_lt_of_cell? _ _ hw281_1) GW288.out) _).trans (((cell_far (p := ⟨gb288, _, none⟩) (zN (World.block_lt_of_cell? _ _ hw281_1) GW288.out) _).trans (((cell_far (p := ⟨gb288, _, none⟩) (zN (World.block_lt_of_cell? _ _ hw281_1) GW288.out) _).trans (((cell_far (p := ⟨gb288, _, none⟩) (zN (World.block_lt_of_cell? _ _ hw281_1) GW288.out) _).trans (hHeld.2.2.2.2.2.2.1)))))))))), ((cell_far (p := ⟨gb288, _, none⟩) (zN (World.block_lt_of_cell? _ _ hw281_2) GW288.out) _).trans (((cell_far (p := ⟨gb288, _, none⟩) (zN (World.block_lt_of_cell? _ _ hw281_2) GW288.out) _).trans (((cell_far (p := ⟨gb288, _, none⟩) (zN (World.block_lt_of_cell? _ _ hw281_2) GW288.out) _).trans (((cell_far (p := ⟨gb288, _, none⟩) (zN (World.block_lt_of_cell? _ _ hw281_2) GW288.out) _).trans (((cell_far (p := ⟨gb288, _, none⟩) (zN (World.block_lt_of_cell? _ _ hw281_2) GW288.out) _).trans (hHeld.2.2.2.2.2.2.2.1)))))))))), ((cell_far (p := ⟨gb288, _, none⟩) (zN (World.block_lt_of_cell? _ _ hw281_3) GW288.out) _).trans (((cell_far (p := ⟨gb288, _, none⟩) (zN (World.block_lt_of_cell? _ _ hw281_3) GW288.out) _).trans (((cell_far (p := ⟨gb288, _, none⟩) (zN (World.block_lt_of_cell? _ _ hw281_3) GW288.out) _).trans (((cell_far (p := ⟨gb288, _, none⟩) (zN (World.block_lt_of_cell? _ _ hw281_3) GW288.out) _).trans (((cell_far (p := ⟨gb288, _, none⟩) (zN (World.block_lt_of_cell? _ _ hw281_3) GW288.out) _).trans (hHeld.2.2.2.2.2.2.2.2.1)))))))))), ((cell_far (p := ⟨gb288, _, none⟩) (zN (World.block_lt_of_cell? _ _ hw281_4) GW288.out) _).trans (((cell_far (p := ⟨gb288, _, none⟩) (zN (World.block_lt_of_cell? _ _ hw281_4) GW288.out) _).trans (((cell_far (p := ⟨gb288, _, none⟩) (zN (World.block_lt_of_cell? _ _ hw281_4) GW288.out) _).trans (((cell_far (p := ⟨gb288, _, none⟩) (zN (World.block_lt_of_cell? _ _ hw281_4) GW288.out) _).trans (((cell_far (p := ⟨gb288, _, none⟩) (zN (World.block_lt_of_cell? _ _ hw281_4) GW288.out) _).trans (hHeld.2.2.2.2.2.2.2.2.2))))))))))⟩ (fun hHeld => ?_)
             clear hK K
             refine done_ (done_of HT_.out (by kernel_rfl)) ?_
             try go_wp2
             have n0_ : Aside0 (Kd.S (Kd.slice 3 (Kd.int .i64)) 45 ((((((((((w33.setCell ⟨gb287, 0, none⟩ (.int .i64 t276)).setCell ⟨gb287, 1, none⟩ (.string t277)).setCell ⟨gb287, 2, none⟩ (.int .i64 t278)).setCell ⟨gb287, 3, none⟩ (.int .i64 t279)).setCell ⟨gb287, 4, none⟩ (.int .i64 t280)).setCell ⟨gb288, 0, none⟩ (.int .i64 t282)).setCell ⟨gb288, 1, none⟩ (.string t283)).setCell ⟨gb288, 2, none⟩ (.int .i64 t284)).setCell ⟨gb288, 3, none⟩ (.int .i64 t285)).setCell ⟨gb288, 4, none⟩ (.int .i64 t286)) w.heap.size (fun _ => True) u8 x8_3) := ⟨by (with_reducible repeat (first | apply Kd.S_alloc | apply Kd.S_drewN | apply Kd.S_drew)); exact Kd.S_mono (Kd.S_far (p := ⟨gb288, 4, none⟩) (Kd.S_far (p := ⟨gb288, 3, none⟩) (Kd.S_far (p := ⟨gb288, 2, none⟩) (Kd.S_far (p := ⟨gb288, 1, none⟩) (Kd.S_far (p := ⟨gb288, 0, none⟩) (Kd.S_far (p := ⟨gb287, 4, none⟩) (Kd.S_far (p := ⟨gb287, 3, none⟩) (Kd.S_far (p := ⟨gb287, 2, none⟩) (Kd.S_far (p := ⟨gb287, 1, none⟩) (Kd.S_far (p := ⟨gb287, 0, none⟩) (Kd.S_types (Kd.S_types HO_8.out BK287.out (by decide)) BK288.out (by decide)) (fun _ hk => hk.1.2) (.int .i64 t276)) (fun _ hk => hk.1.2) (.string t277)) (fun _ hk => hk.1.2) (.int .i64 t278)) (fun _ hk => hk.1.2) (.int .i64 t279)) (fun _ hk => hk.1.2) (.int .i64 t280)) (fun _ hk => hk.2) (.int .i64 t282)) (fun _ hk => hk.2) (.string t283)) (fun _ hk => hk.2) (.int .i64 t284)) (fun _ hk => hk.2) (.int .i64 t285)) (fun _ hk => hk.2) (.int .i64 t286)) (fun _ hk => trivial)⟩; have n1_ : Aside0 (((((((((((w33.setCell ⟨gb287, 0, none⟩ (.int .i64 t276)).setCell ⟨gb287, 1, none⟩ (.string t277)).setCell ⟨gb287, 2, none⟩ (.int .i64 t278)).setCell ⟨gb287, 3, none⟩ (.int .i64 t279)).setCell ⟨gb287, 4, none⟩ (.int .i64 t280)).setCell ⟨gb288, 0, none⟩ (.int .i64 t282)).setCell ⟨gb288, 1, none⟩ (.string t283)).setCell ⟨gb288, 2, none⟩ (.int .i64 t284)).setCell ⟨gb288, 3, none⟩ (.int .i64 t285)).setCell ⟨gb288, 4, none⟩ (.int .i64 t286)).heap[gb287]? = some (.cells #[.int .i64 t276, .string t277, .int .i64 t278, .int .i64 t279, .int .i64 t280] 42 (0, 0))) := ⟨by (with_reducible repeat (first | refine blk_drewN ?_ _ | refine blk_drew ?_ | refine blk_alloc ?_ _)); refine blk_far ?_ NB287_288.out _; (with_reducible repeat (first | refine blk_drewN ?_ _ | refine blk_drew ?_ | refine blk_alloc ?_ _)); refine blk_far ?_ NB287_288.out _; (with_reducible repeat (first | refine blk_drewN ?_ _ | refine blk_drew ?_ | refine blk_alloc ?_ _)); refine blk_far ?_ NB287_288.out _; (with_reducible repeat (first | refine blk_drewN ?_ _ | refine blk_drew ?_ | refine blk_alloc ?_ _)); refine blk_far ?_ NB287_288.out _; (with_reducible repeat (first | refine blk_drewN ?_ _ | refine blk_drew ?_ | refine blk_alloc ?_ _)); refine blk_far ?_ NB287_288.out _; (with_reducible repeat (first | refine blk_drewN ?_ _ | refine blk_drew ?_ | refine blk_alloc ?_ _)); refine blk_put (cs := #[.int .i64 t276, .string t277, .int .i64 t278, .int .i64 t279, .int .i64 0]) ?_ 4 _ rfl; (with_reducible repeat (first | refine blk_drewN ?_ _ | refine blk_drew ?_ | refine blk_alloc ?_ _)); refine blk_put (cs := #[.int .i64 t276, .string t277, .int .i64 t278, .int .i64 0, .int .i64 0]) ?_ 3 _ rfl; (with_reducible repeat (first | refine blk_drewN ?_ _ | refine blk_drew ?_ | refine blk_alloc ?_ _)); refine blk_put (cs := #[.int .i64 t276, .string t277, .int .i64 0, .int .i64 0, .int .i64 0]) ?_ 2 _ rfl; (with_reducible repeat (first | refine blk_drewN ?_ _ | refine blk_drew ?_ | refine blk_alloc ?_ _)); refine blk_put (cs := #[.int .i64 t276, .string (⟨#[]⟩ : ByteArray), .int .i64 0, .int .i64 0, .int .i64 0]) ?_ 1 _ rfl; (with_reducible repeat (first | refine blk_drewN ?_ _ | refine blk_drew ?_ | refine blk_alloc ?_ _)); refine blk_put (cs := #[.int .i64 0, .string (⟨#[]⟩ : ByteArray), .int .i64 0, .int .i64 0, .int .i64 0]) ?_ 0 _ rfl; (with_reducible repeat (first | refine blk_drewN ?_ _ | refine blk_drew ?_ | refine blk_alloc ?_ _)); exact BK287.out⟩; have n2_ : Aside0 (((((((((((w33.setCell ⟨gb287, 0, none⟩ (.int .i64 t276)).setCell ⟨gb287, 1, none⟩ (.string t277)).setCell ⟨gb287, 2, none⟩ (.int .i64 t278)).setCell ⟨gb287, 3, none⟩ (.int .i64 t279)).setCell ⟨gb287, 4, none⟩ (.int .i64 t280)).setCell ⟨gb288, 0, none⟩ (.int .i64 t282)).setCell ⟨gb288, 1, none⟩ (.string t283)).setCell ⟨gb288, 2, none⟩ (.int .i64 t284)).setCell ⟨gb288, 3, none⟩ (.int .i64 t285)).setCell ⟨gb288, 4, none⟩ (.int .i64 t286)).heap[gb288]? = some (.cells #[.int .i64 t282, .string t283, .int .i64 t284, .int .i64 t285, .int .i64 t286] 42 (0, 0))) := ⟨by (with_reducible repeat (first | refine blk_drewN ?_ _ | refine blk_drew ?_ | refine blk_alloc ?_ _)); refine blk_put (cs := #[.int .i64 t282, .string t283, .int .i64 t284, .int .i64 t285, .int .i64 0]) ?_ 4 _ rfl; (with_reducible repeat (first | refine blk_drewN ?_ _ | refine blk_drew ?_ | refine blk_alloc ?_ _)); refine blk_put (cs := #[.int .i64 t282, .string t283, .int .i64 t284, .int .i64 0, .int .i64 0]) ?_ 3 _ rfl; (with_reducible repeat (first | refine blk_drewN ?_ _ | refine blk_drew ?_ | refine blk_alloc ?_ _)); refine blk_put (cs := #[.int .i64 t282, .string t283, .int .i64 0, .int .i64 0, .int .i64 0]) ?_ 2 _ rfl; (with_reducible repeat (first | refine blk_drewN ?_ _ | refine blk_drew ?_ | refine blk_alloc ?_ _)); refine blk_put (cs := #[.int .i64 t282, .string (⟨#[]⟩ : ByteArray), .int .i64 0, .int .i64 0, .int .i64 0]) ?_ 1 _ rfl; (with_reducible repeat (first | refine blk_drewN ?_ _ | refine blk_drew ?_ | refine blk_alloc ?_ _)); refine blk_put (cs := #[.int .i64 0, .string (⟨#[]⟩ : ByteArray), .int .i64 0, .int .i64 0, .int .i64 0]) ?_ 0 _ rfl; (with_reducible repeat (first | refine blk_drewN ?_ _ | refine blk_drew ?_ | refine blk_alloc ?_ _)); refine blk_far ?_ NB288_287.out _; (with_reducible repeat (first | refine blk_drewN ?_ _ | refine blk_drew ?_ | refine blk_alloc ?_ _)); refine blk_far ?_ NB288_287.out _; (with_reducible repeat (first | refine blk_drewN ?_ _ | refine blk_drew ?_ | refine blk_alloc ?_ _)); refine blk_far ?_ NB288_287.out _; (with_reducible repeat (first | refine blk_drewN ?_ _ | refine blk_drew ?_ | refine blk_alloc ?_ _)); refine blk_far ?_ NB288_287.out _; (with_reducible repeat (first | refine blk_drewN ?_ _ | refine blk_drew ?_ | refine blk_alloc ?_ _)); refine blk_far ?_ NB288_287.out _; (with_reducible repeat (first | refine blk_drewN ?_ _ | refine blk_drew ?_ | refine blk_alloc ?_ _)); exact BK288.out⟩; have n3_ : Aside0 (Below w.heap.size w ((((((((((w33.setCell ⟨gb287, 0, none⟩ (.int .i64 t276)).setCell ⟨gb287, 1, none⟩ (.string t277)).setCell ⟨gb287, 2, none⟩ (.int .i64 t278)).setCell ⟨gb287, 3, none⟩ (.int .i64 t279)).setCell ⟨gb287, 4, none⟩ (.int .i64 t280)).setCell ⟨gb288, 0, none⟩ (.int .i64 t282)).setCell ⟨gb288, 1, none⟩ (.string t283)).setCell ⟨gb288, 2, none⟩ (.int .i64 t284)).setCell ⟨gb288, 3, none⟩ (.int .i64 t285)).setCell ⟨gb288, 4, none⟩ (.int .i64 t286))) := ⟨by repeat (first | (with_reducible first | exact HB.out | apply below_alloc | apply pw_below_drewN | apply below_drew1 | refine below_set ?_ GE287.out | refine below_set ?_ GE288.out) | exact HB.out)⟩; (try clear HO_8); (try clear BK287); (try clear BK288); (try clear HB)
             generalize ((((((((((w33.setCell ⟨gb287, 0, none⟩ (.int .i64 t276)).setCell ⟨gb287, 1, none⟩ (.string t277)).setCell ⟨gb287, 2, none⟩ (.int .i64 t278)).setCell ⟨gb287, 3, none⟩ (.int .i64 t279)).setCell ⟨gb287, 4, none⟩ (.int .i64 t280)).setCell ⟨gb288, 0, none⟩ (.int .i64 t282)).setCell ⟨gb288, 1, none⟩ (.string t283)).setCell ⟨gb288, 2, none⟩ (.int .i64 t284)).setCell ⟨gb288, 3, none⟩ (.int .i64 t285)).setCell ⟨gb288, 4, none⟩ (.int .i64 t286)) = w44 at n0_ n1_ n2_ n3_ ⊢
             have HO_8 := n0_; have BK287 := n1_; have BK288 := n2_; have HB := n3_; clear n0_ n1_ n2_ n3_; have H := HH_.out; clear HH_
             by_cases c24 : t292 ≥ a2
             ·rw [if_pos c24] at H
              have c24b0 : decide (a2 ≤ t292) = true := decide_eq_true c24; clear c24
              replace H := Option.bind_eq_some_iff.mp H
              obtain ⟨t293, A250, H⟩ := H
              replace H : (if t293 < a2 then (if x8_3.length < 5864062014805 then (spec_FadedApart.l1 k3 l0 a1 a2 (x8_3 ++ [(([t276, t282] : List Int))]) x9_2 (wrap64 (x10_3 + 1))) else (none)) else (spec_FadedApart.l1 k3 l0 a1 a2 x8_3 x9_2 (wrap64 (x10_3 + 1)))) = some (r1, r2) := H
              have A25 := zA A250; clear A250
              by_cases c26 : t293 < a2
              ·rw [if_pos c26] at H
               have c26b0 : decide (t293 < a2) = true := decide_eq_true c26; clear c26
               obtain ⟨y294, hy294⟩ : ∃ y_ : List Int, y_ = (([t276, t282] : List Int)) := ⟨_, rfl⟩
               replace H : (if x8_3.length < 5864062014805 then (spec_FadedApart.l1 k3 l0 a1 a2 (x8_3 ++ [y294]) x9_2 (wrap64 (x10_3 + 1))) else (none)) = some (r1, r2) := by first | (rw [hy294]; with_reducible exact H) | (have H2_ := (Option.bind_some _ _).symm.trans H; rw [hy294]; with_reducible exact H2_) | (have H2_ := (Option.bind_some _ _).symm.trans H; with_reducible exact H2_) | with_reducible exact H | (rw [hy294]; exact H) | exact H
               have Ny294 := zA hy294; clear hy294
               by_cases c27 : x8_3.length < 5864062014805
               ·rw [if_pos c27] at H
                have LMc27 := zA c27; clear c27
                obtain ⟨y297, hy297⟩ : ∃ y_ : List (List Int), y_ = (x8_3 ++ [y294]) := ⟨_, rfl⟩
                replace H : (spec_FadedApart.l1 k3 l0 a1 a2 y297 x9_2 (wrap64 (x10_3 + 1))) = some (r1, r2) := by first | (rw [hy297]; with_reducible exact H) | (have H2_ := (Option.bind_some _ _).symm.trans H; rw [hy297]; with_reducible exact H2_) | (have H2_ := (Option.bind_some _ _).symm.trans H; with_reducible exact H2_) | with_reducible exact H | (rw [hy297]; exact H) | exact H
                have Ny297 := zA hy297; clear hy297; have H' := zA H; clear H; have n0_ := zA (Kd.S_drew HO_8.out); have n1_ := zA (blk_drew BK287.out); have n2_ := zA (blk_drew BK288.out); have n3_ := zA (below_drew1 HB.out); clear HO_8; clear BK287; clear BK288; clear HB; have HO_8 := n0_; have BK287 := n1_; have BK288 := n2_; have HB := n3_; clear n0_ n1_ n2_ n3_; have p289 : 0 ≤ (x9_2 : Int) := of_decide_eq_true (by first | (with_reducible assumption) | assumption); have q289 : x9_2 < (l0.length : Int) := of_decide_eq_true (by first | (with_reducible assumption) | assumption)
                obtain ⟨ad289, e289, hx289_0, hx289_1, hx289_2, hx289_3, hx289_4⟩ := at_T42 HR0.out x9_2 p289 q289
                have hw289_4 := hx289_4; have hw289_3 := hx289_3; have hw289_2 := hx289_2; have hw289_1 := hx289_1; have hw289_0 := hx289_0
                obtain rfl : ad275 = ad289 := (by injection e289)
                replace hx289_0 := (HB.out.cell (World.block_lt_of_cell? w _ hx289_0)).trans hx289_0
                replace hx289_1 := (HB.out.cell (World.block_lt_of_cell? w _ hx289_1)).trans hx289_1
                replace hx289_2 := (HB.out.cell (World.block_lt_of_cell? w _ hx289_2)).trans hx289_2
                replace hx289_3 := (HB.out.cell (World.block_lt_of_cell? w _ hx289_3)).trans hx289_3
                replace hx289_4 := (HB.out.cell (World.block_lt_of_cell? w _ hx289_4)).trans hx289_4
                replace p289 := eq_true p289
                replace q289 := eq_true q289
                have p290 : 0 ≤ (x10_3 : Int) := of_decide_eq_true (by first | (with_reducible assumption) | assumption); have q290 : x10_3 < (l0.length : Int) := of_decide_eq_true (by first | (with_reducible assumption) | assumption)
                obtain ⟨ad290, e290, hx290_0, hx290_1, hx290_2, hx290_3, hx290_4⟩ := at_T42 HR0.out x10_3 p290 q290
                have hw290_4 := hx290_4; have hw290_3 := hx290_3; have hw290_2 := hx290_2; have hw290_1 := hx290_1; have hw290_0 := hx290_0
                obtain rfl : ad275 = ad290 := (by injection e290)
                replace hx290_0 := (HB.out.cell (World.block_lt_of_cell? w _ hx290_0)).trans hx290_0
                replace hx290_1 := (HB.out.cell (World.block_lt_of_cell? w _ hx290_1)).trans hx290_1
                replace hx290_2 := (HB.out.cell (World.block_lt_of_cell? w _ hx290_2)).trans hx290_2
                replace hx290_3 := (HB.out.cell (World.block_lt_of_cell? w _ hx290_3)).trans hx290_3
                replace hx290_4 := (HB.out.cell (World.block_lt_of_cell? w _ hx290_4)).trans hx290_4
                replace p290 := eq_true p290
                replace q290 := eq_true q290
                have p291 : 0 ≤ (x10_3 : Int) := of_decide_eq_true (by first | (with_reducible assumption) | assumption); have q291 : x10_3 < (l0.length : Int) := of_decide_eq_true (by first | (with_reducible assumption) | assumption)
                obtain ⟨ad291, e291, hx291_0, hx291_1, hx291_2, hx291_3, hx291_4⟩ := at_T42 HR0.out x10_3 p291 q291
                have hw291_4 := hx291_4; have hw291_3 := hx291_3; have hw291_2 := hx291_2; have hw291_1 := hx291_1; have hw291_0 := hx291_0
                obtain rfl : ad275 = ad291 := (by injection e291)
                replace hx291_0 := (HB.out.cell (World.block_lt_of_cell? w _ hx291_0)).trans hx291_0
                replace hx291_1 := (HB.out.cell (World.block_lt_of_cell? w _ hx291_1)).trans hx291_1
                replace hx291_2 := (HB.out.cell (World.block_lt_of_cell? w _ hx291_2)).trans hx291_2
                replace hx291_3 := (HB.out.cell (World.block_lt_of_cell? w _ hx291_3)).trans hx291_3
                replace hx291_4 := (HB.out.cell (World.block_lt_of_cell? w _ hx291_4)).trans hx291_4
                replace p291 := eq_true p291
                replace q291 := eq_true q291
                refine start_ (n := 27) (S := fun w' => w'.cell? ⟨gb287, 0, none⟩ = some (.int .i64 t276) ∧ w'.cell? ⟨gb287, 1, none⟩ = some (.string t277) ∧ w'.cell? ⟨gb287, 2, none⟩ = some (.int .i64 t278) ∧ w'.cell? ⟨gb287, 3, none⟩ = some (.int .i64 t279) ∧ w'.cell? ⟨gb287, 4, none⟩ = some (.int .i64 t280) ∧ w'.cell? ⟨gb288, 0, none⟩ = some (.int .i64 t282) ∧ w'.cell? ⟨gb288, 1, none⟩ = some (.string t283) ∧ w'.cell? ⟨gb288, 2, none⟩ = some (.int .i64 t284) ∧ w'.cell? ⟨gb288, 3, none⟩ = some (.int .i64 t285) ∧ w'.cell? ⟨gb288, 4, none⟩ = some (.int .i64 t286) ∧ w'.cell? (ad275.add ((x9_2).toNat * 5)) = some (.int .i64 ((rd_T42 l0 x9_2).f0)) ∧ w'.cell? ⟨(ad275.add ((x9_2).toNat * 5)).block, (ad275.add ((x9_2).toNat * 5)).off + 1, none⟩ = some (.string ((rd_T42 l0 x9_2).f1)) ∧ w'.cell? ⟨(ad275.add ((x9_2).toNat * 5)).block, (ad275.add ((x9_2).toNat * 5)).off + 2, none⟩ = some (.int .i64 ((rd_T42 l0 x9_2).f2)) ∧ w'.cell? ⟨(ad275.add ((x9_2).toNat * 5)).block, (ad275.add ((x9_2).toNat * 5)).off + 3, none⟩ = some (.int .i64 ((rd_T42 l0 x9_2).f3)) ∧ w'.cell? ⟨(ad275.add ((x9_2).toNat * 5)).block, (ad275.add ((x9_2).toNat * 5)).off + 4, none⟩ = some (.int .i64 ((rd_T42 l0 x9_2).f4)) ∧ w'.cell? (ad275.add ((x10_3).toNat * 5)) = some (.int .i64 ((rd_T42 l0 x10_3).f0)) ∧ w'.cell? ⟨(ad275.add ((x10_3).toNat * 5)).block, (ad275.add ((x10_3).toNat * 5)).off + 1, none⟩ = some (.string ((rd_T42 l0 x10_3).f1)) ∧ w'.cell? ⟨(ad275.add ((x10_3).toNat * 5)).block, (ad275.add ((x10_3).toNat * 5)).off + 2, none⟩ = some (.int .i64 ((rd_T42 l0 x10_3).f2)) ∧ w'.cell? ⟨(ad275.add ((x10_3).toNat * 5)).block, (ad275.add ((x10_3).toNat * 5)).off + 3, none⟩ = some (.int .i64 ((rd_T42 l0 x10_3).f3)) ∧ w'.cell? ⟨(ad275.add ((x10_3).toNat * 5)).block, (ad275.add ((x10_3).toNat * 5)).off + 4, none⟩ = some (.int .i64 ((rd_T42 l0 x10_3).f4)) ∧ w'.cell? (ad275.add ((x10_3).toNat * 5)) = some (.int .i64 ((rd_T42 l0 x10_3).f0)) ∧ w'.cell? ⟨(ad275.add ((x10_3).toNat * 5)).block, (ad275.add ((x10_3).toNat * 5)).off + 1, none⟩ = some (.string ((rd_T42 l0 x10_3).f1)) ∧ w'.cell? ⟨(ad275.add ((x10_3).toNat * 5)).block, (ad275.add ((x10_3).toNat * 5)).off + 2, none⟩ = some (.int .i64 ((rd_T42 l0 x10_3).f2)) ∧ w'.cell? ⟨(ad275.add ((x10_3).toNat * 5)).block, (ad275.add ((x10_3).toNat * 5)).off + 3, none⟩ = some (.int .i64 ((rd_T42 l0 x10_3).f3)) ∧ w'.cell? ⟨(ad275.add ((x10_3).toNat * 5)).block, (ad275.add ((x10_3).toNat * 5)).off + 4, none⟩ = some (.int .i64 ((rd_T42 l0 x10_3).f4))) (ds := []) #[false, false, false, false, false, false, false, false, false, false, false, false, false, false, false, false, false, false, false, false, false, false, false, false, false, false, false] (by kernel_rfl) rfl rfl ⟨(blk_cell BK287.out 0).trans rfl, (blk_cell BK287.out 1).trans rfl, (blk_cell BK287.out 2).trans rfl, (blk_cell BK287.out 3).trans rfl, (blk_cell BK287.out 4).trans rfl, (blk_cell BK288.out 0).trans rfl, (blk_cell BK288.out 1).trans rfl, (blk_cell BK288.out 2).trans rfl, (blk_cell BK288.out 3).trans rfl, (blk_cell BK288.out 4).trans rfl, ((HB.out.cell (World.block_lt_of_cell? w _ hw289_0)).trans hw289_0), ((HB.out.cell (World.block_lt_of_cell? w _ hw289_1)).trans hw289_1), ((HB.out.cell (World.block_lt_of_cell? w _ hw289_2)).trans hw289_2), ((HB.out.cell (World.block_lt_of_cell? w _ hw289_3)).trans hw289_3), ((HB.out.cell (World.block_lt_of_cell? w _ hw289_4)).trans hw289_4), ((HB.out.cell (World.block_lt_of_cell? w _ hw290_0)).trans hw290_0), ((HB.out.cell (World.block_lt_of_cell? w _ hw290_1)).trans hw290_1), ((HB.out.cell (World.block_lt_of_cell? w _ hw290_2)).trans hw290_2), ((HB.out.cell (World.block_lt_of_cell? w _ hw290_3)).trans hw290_3), ((HB.out.cell (World.block_lt_of_cell? w _ hw290_4)).trans hw290_4), ((HB.out.cell (World.block_lt_of_cell? w _ hw291_0)).trans hw291_0), ((HB.out.cell (World.block_lt_of_cell? w _ hw291_1)).trans hw291_1), ((HB.out.cell (World.block_lt_of_cell? w _ hw291_2)).trans hw291_2), ((HB.out.cell (World.block_lt_of_cell? w _ hw291_3)).trans hw291_3), ((HB.out.cell (World.block_lt_of_cell? w _ hw291_4)).trans hw291_4)⟩ (fun hHeld => ?_); refine with_tabW spec_FadedApart.tab11 spec_FadedApart.bits11 (fun HT_ HW_ => ?_)
                generalize w44.drew = w45 at HO_8 BK287 BK288 HB hx289_0 hx289_1 hx289_2 hx289_3 hx289_4 hx290_0 hx290_1 hx290_2 hx290_3 hx290_4 hx291_0 hx291_1 hx291_2 hx291_3 hx291_4 hHeld ⊢
                refine pure_ (i := 0) (N := some 54) (v := ?_) (a' := ?_) #[true, false, false, false, false, false, false, false, false, false, false, false, false, false, false, false, false, false, false, false, false, false, false, false, false, false, false] rfl rfl (any_of HT_.out (by kernel_rfl)) (fun _ _ _ h => h) (Or.inl ⟨by rfl, ?_⟩) ?_ ?_
                rotate_left
                ·intro w'
                 go_simp
                 with_reducible rfl
                rotate_left
                ·simp only [Act.put, List.setIfInBounds_toArray, List.set_cons_zero, List.set_cons_succ, i64_w, i32_w]
                 rfl
                refine pure_ (i := 1) (N := some 55) (v := ?_) (a' := ?_) #[true, true, false, false, false, false, false, false, false, false, false, false, false, false, false, false, false, false, false, false, false, false, false, false, false, false, false] rfl rfl (any_of HT_.out (by kernel_rfl)) (fun _ _ _ h => h) (Or.inl ⟨by rfl, ?_⟩) ?_ ?_
                rotate_left
                ·intro w'
                 go_simp
                 with_reducible rfl
                rotate_left
                ·simp only [Act.put, List.setIfInBounds_toArray, List.set_cons_zero, List.set_cons_succ, i64_w, i32_w]
                 rfl
                refine pure_ (i := 2) (N := some 56) (v := ?_) (a' := ?_) #[true, true, true, false, false, false, false, false, false, false, false, false, false, false, false, false, false, false, false, false, false, false, false, false, false, false, false] rfl rfl (any_of HT_.out (by kernel_rfl)) (fun _ _ _ h => h) (Or.inl ⟨by rfl, ?_⟩) ?_ ?_
                rotate_left
                ·intro w'
                 go_simp
                 with_reducible rfl
                rotate_left
                ·simp only [Act.put, List.setIfInBounds_toArray, List.set_cons_zero, List.set_cons_succ, i64_w, i32_w]
                 rfl
                refine pure_ (i := 4) (N := some 58) (v := ?_) (a' := ?_) #[true, true, true, false, true, false, false, false, false, false, false, false, false, false, false, false, false, false, false, false, false, false, false, false, false, false, false] rfl rfl (any_of HT_.out (by kernel_rfl)) (fun _ _ _ h => h) (Or.inl ⟨by rfl, ?_⟩) ?_ ?_
                rotate_left
                ·intro w'
                 go_simp
                 with_reducible rfl
                rotate_left
                ·simp only [Act.put, List.setIfInBounds_toArray, List.set_cons_zero, List.set_cons_succ, i64_w, i32_w]
                 rfl
                refine pure_ (i := 5) (N := some 59) (v := ?_) (a' := ?_) #[true, true, true, false, true, true, false, false, false, false, false, false, false, false, false, false, false, false, false, false, false, false, false, false, false, false, false] rfl rfl (any_of HT_.out (by kernel_rfl)) (fun _ _ _ h => h) (Or.inl ⟨by rfl, ?_⟩) ?_ ?_
                rotate_left
                ·intro w'
                 go_simp
                 with_reducible rfl
                rotate_left
                ·simp only [Act.put, List.setIfInBounds_toArray, List.set_cons_zero, List.set_cons_succ, i64_w, i32_w]
                 rfl
                refine pure_ (i := 6) (N := some 60) (v := ?_) (a' := ?_) #[true, true, true, false, true, true, true, false, false, false, false, false, false, false, false, false, false, false, false, false, false, false, false, false, false, false, false] rfl rfl (any_of HT_.out (by kernel_rfl)) (fun _ _ _ h => h) (Or.inl ⟨by rfl, ?_⟩) ?_ ?_
                rotate_left
                ·intro w'
                 go_simp
                 with_reducible rfl
                rotate_left
                ·simp only [Act.put, List.setIfInBounds_toArray, List.set_cons_zero, List.set_cons_succ, i64_w, i32_w]
                 rfl
                refine pure_ (i := 7) (N := some 61) (v := ?_) (a' := ?_) #[true, true, true, false, true, true, true, true, false, false, false, false, false, false, false, false, false, false, false, false, false, false, false, false, false, false, false] rfl rfl (any_of HT_.out (by kernel_rfl)) (fun _ _ _ h => h) (Or.inl ⟨by rfl, ?_⟩) ?_ ?_
                rotate_left
                ·intro w'
                 go_simp
                 with_reducible rfl
                rotate_left
                ·simp only [Act.put, List.setIfInBounds_toArray, List.set_cons_zero, List.set_cons_succ, i64_w, i32_w]
                 rfl
                refine pure_ (i := 9) (N := some 63) (v := ?_) (a' := ?_) #[true, true, true, false, true, true, true, true, false, true, false, false, false, false, false, false, false, false, false, false, false, false, false, false, false, false, false] rfl rfl (any_of HT_.out (by kernel_rfl)) (fun _ _ _ h => h) (Or.inl ⟨by rfl, ?_⟩) ?_ ?_
                rotate_left
                ·intro w'
                 go_simp
                 with_reducible rfl
                rotate_left
                ·simp only [Act.put, List.setIfInBounds_toArray, List.set_cons_zero, List.set_cons_succ, i64_w, i32_w]
                 rfl
                refine pure_ (i := 10) (N := some 64) (v := ?_) (a' := ?_) #[true, true, true, false, true, true, true, true, false, true, true, false, false, false, false, false, false, false, false, false, false, false, false, false, false, false, false] rfl rfl (any_of HT_.out (by kernel_rfl)) (fun _ _ _ h => h) (Or.inl ⟨by rfl, ?_⟩) ?_ ?_
                rotate_left
                ·intro w'
                 go_simp
                 with_reducible rfl
                rotate_left
                ·simp only [Act.put, List.setIfInBounds_toArray, List.set_cons_zero, List.set_cons_succ, i64_w, i32_w]
                 rfl
                refine pure_ (i := 11) (N := some 65) (v := ?_) (a' := ?_) #[true, true, true, false, true, true, true, true, false, true, true, true, false, false, false, false, false, false, false, false, false, false, false, false, false, false, false] rfl rfl (any_of HT_.out (by kernel_rfl)) (fun _ _ _ h => h) (Or.inl ⟨by rfl, ?_⟩) ?_ ?_
                rotate_left
                ·intro w'
                 go_simp
                 with_reducible rfl
                rotate_left
                ·simp only [Act.put, List.setIfInBounds_toArray, List.set_cons_zero, List.set_cons_succ, i64_w, i32_w]
                 rfl
                refine pure_ (i := 12) (N := some 66) (v := ?_) (a' := ?_) #[true, true, true, false, true, true, true, true, false, true, true, true, true, false, false, false, false, false, false, false, false, false, false, false, false, false, false] rfl rfl (any_of HT_.out (by kernel_rfl)) (fun _ _ _ h => h) (Or.inl ⟨by rfl, ?_⟩) ?_ ?_
                rotate_left
                ·intro w'
                 go_simp
                 with_reducible rfl
                rotate_left
                ·simp only [Act.put, List.setIfInBounds_toArray, List.set_cons_zero, List.set_cons_succ, i64_w, i32_w]
                 rfl
                refine pure_ (i := 15) (N := some 69) (v := ?_) (a' := ?_) #[true, true, true, false, true, true, true, true, false, true, true, true, true, false, false, true, false, false, false, false, false, false, false, false, false, false, false] rfl rfl (any_of HT_.out (by kernel_rfl)) (fun _ _ _ h => h) (Or.inl ⟨by rfl, ?_⟩) ?_ ?_
                rotate_left
                ·intro w'
                 go_simp
                 with_reducible rfl
                rotate_left
                ·simp only [Act.put, List.setIfInBounds_toArray, List.set_cons_zero, List.set_cons_succ, i64_w, i32_w]
                 rfl
                refine take_ (i := 3) (N := some 57) (v := ?_) (a' := ?_) #[true, true, true, true, true, true, true, true, false, true, true, true, true, false, false, true, false, false, false, false, false, false, false, false, false, false, false] rfl rfl (take_ofW HT_.out HW_.out (by kernel_rfl)) (fun _ _ _ h => h) (Or.inl ⟨by rfl, ?_⟩) hHeld ?_ ?_
                rotate_left
                ·rintro w' ⟨s0, s1, s2, s3, s4, s5, s6, s7, s8, s9, s10, s11, s12, s13, s14, s15, s16, s17, s18, s19, s20, s21, s22, s23, s24⟩
                 go_simp
                 with_reducible rfl
                rotate_left
                ·simp only [Act.put, List.setIfInBounds_toArray, List.set_cons_zero, List.set_cons_succ, i64_w, i32_w]
                 rfl
                refine take_ (i := 8) (N := some 62) (v := ?_) (a' := ?_) #[true, true, true, true, true, true, true, true, true, true, true, true, true, false, false, true, false, false, false, false, false, false, false, false, false, false, false] rfl rfl (take_ofW HT_.out HW_.out (by kernel_rfl)) (fun _ _ _ h => h) (Or.inl ⟨by rfl, ?_⟩) hHeld ?_ ?_
                rotate_left
                ·rintro w' ⟨s0, s1, s2, s3, s4, s5, s6, s7, s8, s9, s10, s11, s12, s13, s14, s15, s16, s17, s18, s19, s20, s21, s22, s23, s24⟩
                 go_simp
                 with_reducible rfl
                rotate_left
                ·simp only [Act.put, List.setIfInBounds_toArray, List.set_cons_zero, List.set_cons_succ, i64_w, i32_w]
                 rfl
                refine take_ (i := 13) (N := some 67) (v := ?_) (a' := ?_) #[true, true, true, true, true, true, true, true, true, true, true, true, true, true, false, true, false, false, false, false, false, false, false, false, false, false, false] rfl rfl (take_ofW HT_.out HW_.out (by kernel_rfl)) (fun _ _ _ h => h) (Or.inl ⟨by rfl, ?_⟩) hHeld ?_ ?_
                rotate_left
                ·rintro w' ⟨s0, s1, s2, s3, s4, s5, s6, s7, s8, s9, s10, s11, s12, s13, s14, s15, s16, s17, s18, s19, s20, s21, s22, s23, s24⟩
                 go_simp
                 with_reducible rfl
                rotate_left
                ·simp only [Act.put, List.setIfInBounds_toArray, List.set_cons_zero, List.set_cons_succ, i64_w, i32_w]
                 rfl
                refine one_ (i := 14) (N := some 68) #[true, true, true, true, true, true, true, true, true, true, true, true, true, true, true, true, false, false, false, false, false, false, false, false, false, false, false] rfl rfl (one_of HT_.out (by kernel_rfl)) (by decide) (fun K hK => ?_)
                refine goes_ Tryd.func21 (by kernel_rfl) rfl #[.agg #[.int .i64 ((rd_T42 l0 x9_2).f0), .string ((rd_T42 l0 x9_2).f1), .int .i64 ((rd_T42 l0 x9_2).f2), .int .i64 ((rd_T42 l0 x9_2).f3), .int .i64 ((rd_T42 l0 x9_2).f4)], .int .i64 ((rd_T42 l0 x10_3).f2), .int .i64 ((rd_T42 l0 x10_3).f3)] (by rfl) rfl rfl (zM) ?_
                with_reducible refine (spec_l3Far.calls ((rd_T42 l0 x9_2).f0) ((rd_T42 l0 x9_2).f1) ((rd_T42 l0 x9_2).f2) ((rd_T42 l0 x9_2).f3) ((rd_T42 l0 x9_2).f4) ((rd_T42 l0 x10_3).f2) ((rd_T42 l0 x10_3).f3) t292 _ A23.out).mono ?_
                rintro e w46 ⟨rfl, hb⟩
                refine ⟨_, rfl, ?_⟩
                have n0_ := zA (Kd.S_below (by (with_reducible repeat (first | apply Kd.S_alloc | apply Kd.S_drewN | apply Kd.S_drew)); exact HO_8.out) hb); have n1_ := zL BK287 hb; have n2_ := zL BK288 hb; have n3_ := zA (below_step (zW2 HB GE287 GE288) hb); clear HO_8; clear BK287; clear BK288; clear HB; have HO_8 := n0_; have BK287 := n1_; have BK288 := n2_; have HB := n3_; clear n0_ n1_ n2_ n3_; (try clear hb); (try clear hb2); (try clear hk); (try clear hi)
                refine hK.out _ _ ⟨(blk_cell BK287.out 0).trans rfl, (blk_cell BK287.out 1).trans rfl, (blk_cell BK287.out 2).trans rfl, (blk_cell BK287.out 3).trans rfl, (blk_cell BK287.out 4).trans rfl, (blk_cell BK288.out 0).trans rfl, (blk_cell BK288.out 1).trans rfl, (blk_cell BK288.out 2).trans rfl, (blk_cell BK288.out 3).trans rfl, (blk_cell BK288.out 4).trans rfl, ((HB.out.cell (World.block_lt_of_cell? w _ hw289_0)).trans hw289_0), ((HB.out.cell (World.block_lt_of_cell? w _ hw289_1)).trans hw289_1), ((HB.out.cell (World.block_lt_of_cell? w _ hw289_2)).trans hw289_2), ((HB.out.cell (World.block_lt_of_cell? w _ hw289_3)).trans hw289_3), ((HB.out.cell (World.block_lt_of_cell? w _ hw289_4)).trans hw289_4), ((HB.out.cell (World.block_lt_of_cell? w _ hw290_0)).trans hw290_0), ((HB.out.cell (World.block_lt_of_cell? w _ hw290_1)).trans hw290_1), ((HB.out.cell (World.block_lt_of_cell? w _ hw290_2)).trans hw290_2), ((HB.out.cell (World.block_lt_of_cell? w _ hw290_3)).trans hw290_3), ((HB.out.cell (World.block_lt_of_cell? w _ hw290_4)).trans hw290_4), ((HB.out.cell (World.block_lt_of_cell? w _ hw291_0)).trans hw291_0), ((HB.out.cell (World.block_lt_of_cell? w _ hw291_1)).trans hw291_1), ((HB.out.cell (World.block_lt_of_cell? w _ hw291_2)).trans hw291_2), ((HB.out.cell (World.block_lt_of_cell? w _ hw291_3)).trans hw291_3), ((HB.out.cell (World.block_lt_of_cell? w _ hw291_4)).trans hw291_4)⟩ (fun hHeld => ?_)
                clear hK K
                refine norm_ (a' := ?_) ?_ ?_
                rotate_left
                ·show Act.put _ (some 68) _ = _
                 simp only [Act.put, List.setIfInBounds_toArray, List.set_cons_zero, List.set_cons_succ, i64_w, i32_w]
                 rfl
                refine pure_ (i := 16) (N := some 70) (v := ?_) (a' := ?_) #[true, true, true, true, true, true, true, true, true, true, true, true, true, true, true, true, true, false, false, false, false, false, false, false, false, false, false] rfl rfl (any_of HT_.out (by kernel_rfl)) (fun _ _ _ h => h) (Or.inl ⟨by rfl, ?_⟩) ?_ ?_
                rotate_left
                ·intro w'
                 go_simp
                 with_reducible rfl
                rotate_left
                ·simp only [Act.put, List.setIfInBounds_toArray, List.set_cons_zero, List.set_cons_succ, i64_w, i32_w]
                 rfl
                refine pure_ (i := 17) (N := some 71) (v := ?_) (a' := ?_) #[true, true, true, true, true, true, true, true, true, true, true, true, true, true, true, true, true, true, false, false, false, false, false, false, false, false, false] rfl rfl (any_of HT_.out (by kernel_rfl)) (fun _ _ _ h => h) (Or.inl ⟨by rfl, ?_⟩) ?_ ?_
                rotate_left
                ·intro w'
                 go_simp
                 with_reducible rfl
                rotate_left
                ·simp only [Act.put, List.setIfInBounds_toArray, List.set_cons_zero, List.set_cons_succ, i64_w, i32_w]
                 rfl
                refine pure_ (i := 19) (N := some 73) (v := ?_) (a' := ?_) #[true, true, true, true, true, true, true, true, true, true, true, true, true, true, true, true, true, true, false, true, false, false, false, false, false, false, false] rfl rfl (any_of HT_.out (by kernel_rfl)) (fun _ _ _ h => h) (Or.inl ⟨by rfl, ?_⟩) ?_ ?_
                rotate_left
                ·intro w'
                 go_simp
                 with_reducible rfl
                rotate_left
                ·simp only [Act.put, List.setIfInBounds_toArray, List.set_cons_zero, List.set_cons_succ, i64_w, i32_w]
                 rfl
                refine pure_ (i := 21) (N := some 75) (v := ?_) (a' := ?_) #[true, true, true, true, true, true, true, true, true, true, true, true, true, true, true, true, true, true, false, true, false, true, false, false, false, false, false] rfl rfl (any_of HT_.out (by kernel_rfl)) (fun _ _ _ h => h) (Or.inl ⟨by rfl, ?_⟩) ?_ ?_
                rotate_left
                ·intro w'
                 go_simp
                 with_reducible rfl
                rotate_left
                ·simp only [Act.put, List.setIfInBounds_toArray, List.set_cons_zero, List.set_cons_succ, i64_w, i32_w]
                 rfl
                refine pure_ (i := 24) (N := some 78) (v := ?_) (a' := ?_) #[true, true, true, true, true, true, true, true, true, true, true, true, true, true, true, true, true, true, false, true, false, true, false, false, true, false, false] rfl rfl (any_of HT_.out (by kernel_rfl)) (fun _ _ _ h => h) (Or.inl ⟨by rfl, ?_⟩) ?_ ?_
                rotate_left
                ·intro w'
                 go_simp
                 with_reducible rfl
                rotate_left
                ·simp only [Act.put, List.setIfInBounds_toArray, List.set_cons_zero, List.set_cons_succ, i64_w, i32_w]
                 rfl
                refine take_ (i := 18) (N := some 72) (v := ?_) (a' := ?_) #[true, true, true, true, true, true, true, true, true, true, true, true, true, true, true, true, true, true, true, true, false, true, false, false, true, false, false] rfl rfl (take_ofW HT_.out HW_.out (by kernel_rfl)) (fun _ _ _ h => h) (Or.inl ⟨by rfl, ?_⟩) hHeld ?_ ?_
                rotate_left
                ·rintro w' ⟨s0, s1, s2, s3, s4, s5, s6, s7, s8, s9, s10, s11, s12, s13, s14, s15, s16, s17, s18, s19, s20, s21, s22, s23, s24⟩
                 go_simp
                 with_reducible rfl
                rotate_left
                ·simp only [Act.put, List.setIfInBounds_toArray, List.set_cons_zero, List.set_cons_succ, i64_w, i32_w]
                 rfl
                refine take_ (i := 20) (N := some 74) (v := ?_) (a' := ?_) #[true, true, true, true, true, true, true, true, true, true, true, true, true, true, true, true, true, true, true, true, true, true, false, false, true, false, false] rfl rfl (take_ofW HT_.out HW_.out (by kernel_rfl)) (fun _ _ _ h => h) (Or.inl ⟨by rfl, ?_⟩) hHeld ?_ ?_
                rotate_left
                ·rintro w' ⟨s0, s1, s2, s3, s4, s5, s6, s7, s8, s9, s10, s11, s12, s13, s14, s15, s16, s17, s18, s19, s20, s21, s22, s23, s24⟩
                 go_simp
                 with_reducible rfl
                rotate_left
                ·simp only [Act.put, List.setIfInBounds_toArray, List.set_cons_zero, List.set_cons_succ, i64_w, i32_w]
                 rfl
                refine take_ (i := 22) (N := some 76) (v := ?_) (a' := ?_) #[true, true, true, true, true, true, true, true, true, true, true, true, true, true, true, true, true, true, true, true, true, true, true, false, true, false, false] rfl rfl (take_ofW HT_.out HW_.out (by kernel_rfl)) (fun _ _ _ h => h) (Or.inl ⟨by rfl, ?_⟩) hHeld ?_ ?_
                rotate_left
                ·rintro w' ⟨s0, s1, s2, s3, s4, s5, s6, s7, s8, s9, s10, s11, s12, s13, s14, s15, s16, s17, s18, s19, s20, s21, s22, s23, s24⟩
                 go_simp
                 with_reducible rfl
                rotate_left
                ·simp only [Act.put, List.setIfInBounds_toArray, List.set_cons_zero, List.set_cons_succ, i64_w, i32_w]
                 rfl
                refine one_ (i := 23) (N := some 77) #[true, true, true, true, true, true, true, true, true, true, true, true, true, true, true, true, true, true, true, true, true, true, true, true, true, false, false] rfl rfl (one_of HT_.out (by kernel_rfl)) (by decide) (fun K hK => ?_)
                refine goes_ Tryd.func21 (by kernel_rfl) rfl #[.agg #[.int .i64 t276, .string t277, .int .i64 t278, .int .i64 t279, .int .i64 t280], .int .i64 t284, .int .i64 t285] (by rfl) rfl rfl (zM) ?_
                with_reducible refine (spec_l3Far.calls t276 t277 t278 t279 t280 t284 t285 t293 _ A25.out).mono ?_
                rintro e w47 ⟨rfl, hb⟩
                refine ⟨_, rfl, ?_⟩
                have n0_ := zA (Kd.S_below (by (with_reducible repeat (first | apply Kd.S_alloc | apply Kd.S_drewN | apply Kd.S_drew)); exact HO_8.out) hb); have n1_ := zL BK287 hb; have n2_ := zL BK288 hb; have n3_ := zA (below_step (zW2 HB GE287 GE288) hb); clear HO_8; clear BK287; clear BK288; clear HB; have HO_8 := n0_; have BK287 := n1_; have BK288 := n2_; have HB := n3_; clear n0_ n1_ n2_ n3_; (try clear hb); (try clear hb2); (try clear hk); (try clear hi)
                refine hK.out _ _ ⟨(blk_cell BK287.out 0).trans rfl, (blk_cell BK287.out 1).trans rfl, (blk_cell BK287.out 2).trans rfl, (blk_cell BK287.out 3).trans rfl, (blk_cell BK287.out 4).trans rfl, (blk_cell BK288.out 0).trans rfl, (blk_cell BK288.out 1).trans rfl, (blk_cell BK288.out 2).trans rfl, (blk_cell BK288.out 3).trans rfl, (blk_cell BK288.out 4).trans rfl, ((HB.out.cell (World.block_lt_of_cell? w _ hw289_0)).trans hw289_0), ((HB.out.cell (World.block_lt_of_cell? w _ hw289_1)).trans hw289_1), ((HB.out.cell (World.block_lt_of_cell? w _ hw289_2)).trans hw289_2), ((HB.out.cell (World.block_lt_of_cell? w _ hw289_3)).trans hw289_3), ((HB.out.cell (World.block_lt_of_cell? w _ hw289_4)).trans hw289_4), ((HB.out.cell (World.block_lt_of_cell? w _ hw290_0)).trans hw290_0), ((HB.out.cell (World.block_lt_of_cell? w _ hw290_1)).trans hw290_1), ((HB.out.cell (World.block_lt_of_cell? w _ hw290_2)).trans hw290_2), ((HB.out.cell (World.block_lt_of_cell? w _ hw290_3)).trans hw290_3), ((HB.out.cell (World.block_lt_of_cell? w _ hw290_4)).trans hw290_4), ((HB.out.cell (World.block_lt_of_cell? w _ hw291_0)).trans hw291_0), ((HB.out.cell (World.block_lt_of_cell? w _ hw291_1)).trans hw291_1), ((HB.out.cell (World.block_lt_of_cell? w _ hw291_2)).trans hw291_2), ((HB.out.cell (World.block_lt_of_cell? w _ hw291_3)).trans hw291_3), ((HB.out.cell (World.block_lt_of_cell? w _ hw291_4)).trans hw291_4)⟩ (fun hHeld => ?_)
                clear hK K
                refine norm_ (a' := ?_) ?_ ?_
                rotate_left
                ·show Act.put _ (some 77) _ = _
                 simp only [Act.put, List.setIfInBounds_toArray, List.set_cons_zero, List.set_cons_succ, i64_w, i32_w]
                 rfl
                refine pure_ (i := 25) (N := some 79) (v := ?_) (a' := ?_) #[true, true, true, true, true, true, true, true, true, true, true, true, true, true, true, true, true, true, true, true, true, true, true, true, true, true, false] rfl rfl (any_of HT_.out (by kernel_rfl)) (fun _ _ _ h => h) (Or.inl ⟨by rfl, ?_⟩) ?_ ?_
                rotate_left
                ·intro w'
                 go_simp
                 with_reducible rfl
                rotate_left
                ·simp only [Act.put, List.setIfInBounds_toArray, List.set_cons_zero, List.set_cons_succ, i64_w, i32_w]
                 rfl
                refine pure_ (i := 26) (N := some 80) (v := ?_) (a' := ?_) #[true, true, true, true, true, true, true, true, true, true, true, true, true, true, true, true, true, true, true, true, true, true, true, true, true, true, true] rfl rfl (any_of HT_.out (by kernel_rfl)) (fun _ _ _ h => h) (Or.inl ⟨by rfl, ?_⟩) ?_ ?_
                rotate_left
                ·intro w'
                 go_simp
                 with_reducible rfl
                rotate_left
                ·simp only [Act.put, List.setIfInBounds_toArray, List.set_cons_zero, List.set_cons_succ, i64_w, i32_w]
                 rfl
                refine done_ (done_of HT_.out (by kernel_rfl)) ?_
                have hnb48 := NB287_288.out; have hnc48 := NB288_287.out; have hcz49_0 : w47.cell? ⟨gb287, 0, none⟩ = some (.int .i64 t276) := (blk_cell BK287.out 0).trans rfl; have hcz49_1 : w47.cell? ⟨gb287, 1, none⟩ = some (.string t277) := (blk_cell BK287.out 1).trans rfl; have hcz49_2 : w47.cell? ⟨gb287, 2, none⟩ = some (.int .i64 t278) := (blk_cell BK287.out 2).trans rfl; have hcz49_3 : w47.cell? ⟨gb287, 3, none⟩ = some (.int .i64 t279) := (blk_cell BK287.out 3).trans rfl; have hcz49_4 : w47.cell? ⟨gb287, 4, none⟩ = some (.int .i64 t280) := (blk_cell BK287.out 4).trans rfl; have hfz49_0 := blk_frozen BK287.out 0; have hfz49_1 := blk_frozen BK287.out 1; have hfz49_2 := blk_frozen BK287.out 2; have hfz49_3 := blk_frozen BK287.out 3; have hfz49_4 := blk_frozen BK287.out 4; have hcz50_0 : w47.cell? ⟨gb288, 0, none⟩ = some (.int .i64 t282) := (blk_cell BK288.out 0).trans rfl; have hcz50_1 : w47.cell? ⟨gb288, 1, none⟩ = some (.string t283) := (blk_cell BK288.out 1).trans rfl; have hcz50_2 : w47.cell? ⟨gb288, 2, none⟩ = some (.int .i64 t284) := (blk_cell BK288.out 2).trans rfl; have hcz50_3 : w47.cell? ⟨gb288, 3, none⟩ = some (.int .i64 t285) := (blk_cell BK288.out 3).trans rfl; have hcz50_4 : w47.cell? ⟨gb288, 4, none⟩ = some (.int .i64 t286) := (blk_cell BK288.out 4).trans rfl; have hfz50_0 := blk_frozen BK288.out 0; have hfz50_1 := blk_frozen BK288.out 1; have hfz50_2 := blk_frozen BK288.out 2; have hfz50_3 := blk_frozen BK288.out 3; have hfz50_4 := blk_frozen BK288.out 4
                try go_wp2_with (first | ((with_reducible refine gate_dst (N := 86) rfl ?_); refine Kd.R_lit (Kd.int .i64) _ 3 ?hg (N := 86) ?hd (xs := ([t276, t282] : List Int)) (inner := [.int .i64 t276, .int .i64 t282]) (ok := fun _ => True) (okp := fun _ => True) ?hr ?hp (fun _ hk => hk) trivial (Below.refl _ _) (Nat.le_refl _) (by simp) ?_; (case hd => rfl); (case hg => rfl); (case hr => first | (go_simp; done) | (go_simp; rfl)); (case hp => exact (Reps.one (show Kd.M (Kd.int .i64) _ _ _ t276 [.int .i64 t276] from rfl) (Reps.one (show Kd.M (Kd.int .i64) _ _ _ t282 [.int .i64 t282] from rfl) (Reps.none _ _)))); intro v295 w51 ho52 hb hg_ hnew_; clear hg_ hnew_; (first | rw [← Ny294.out] at ho52 | (simp only [Int.reduceToNat] at ho52; rw [← Ny294.out] at ho52)); have n0_ := zA (Kd.S_elder' (by (with_reducible repeat (first | apply Kd.S_alloc | apply Kd.S_drewN | apply Kd.S_drew)); exact HO_8.out) (Kd.R_base ho52) hb); have n1_ := zA (Kd.R_lower ho52 (below_size (zW2 HB GE287 GE288))); have n2_ := zL BK287 hb; have n3_ := zL BK288 hb; have n4_ := zA (below_step (zW2 HB GE287 GE288) hb); clear HO_8; clear BK287; clear BK288; clear HB; have HO_8 := n0_; have HO296 := n1_; have BK287 := n2_; have BK288 := n3_; have HB := n4_; clear n0_ n1_ n2_ n3_ n4_; clear hb ho52; obtain ⟨Ao54, co54, eo54⟩ := Kd.R_slice HO296.out; subst eo54) | ((with_reducible refine gate_builtin (b := .append) (xs := #[.tmp 81, .tmp 87]) rfl ?_); at_builtin; refine Kd.S_append (Kd.slice 3 (Kd.int .i64)) (w0 := w) w.heap.size rfl (.tmp 81) (.tmp 87) 24 45 (.slice none 0 0) 24 rfl Tryd.underlying24 info45 rfl (by decide) (by omega) u8 x8_3 y294 [.slice Ao54 y294.length co54] (fun _ => True) (fun k_ => some k_ = (.slice Ao54 y294.length co54 : Value).ownBlock) rfl rfl ?aP (fun k_ hk_ => ((Kd.R_mono (ok' := fun k_ => ((fun _ => True)) k_ ∧ some k_ ≠ (u8 : Value).ownBlock) (Kd.R_apart' (HO296.out) (Kd.S_typed HO_8.out) (by decide)) (fun k_ hk => ⟨trivial, hk.2⟩))).1 k_ hk_.symm) ?aF ?aO ?aB ?aS ?aL ?_; (case aP => exact Kd.M_row (Kd.R_mono (Kd.R_tight rfl (Kd.R_mono (ok' := fun k_ => ((fun _ => True)) k_ ∧ some k_ ≠ (u8 : Value).ownBlock) (Kd.R_apart' (HO296.out) (Kd.S_typed HO_8.out) (by decide)) (fun k_ hk => ⟨trivial, hk.2⟩))) (fun _ h_ => h_))); (case aB => exact (zW2 HB GE287 GE288)); (case aF => exact (fun _ _ => trivial)); (case aO => exact (by (with_reducible repeat (first | apply Kd.S_alloc | apply Kd.S_drewN | apply Kd.S_drew)); exact Kd.S_mono HO_8.out (fun k_ hk => ⟨trivial, fun e_ => hk.2 e_⟩))); (case aS => exact (below_size (zW2 HB GE287 GE288))); (case aL => have := LMc27.out; omega); intro v298 w53 ho hb hg hat; rw [← Ny297.out] at ho; have n0_ := zA (blk_grown (g := gb287) (o := .cells #[.int .i64 t276, .string t277, .int .i64 t278, .int .i64 t279, .int .i64 t280] 42 (0, 0)) (zB BK287) hg (Kd.S_ne HO_8.out BK287.out (by decide))); have n1_ := zA (blk_grown (g := gb288) (o := .cells #[.int .i64 t282, .string t283, .int .i64 t284, .int .i64 t285, .int .i64 t286] 42 (0, 0)) (zB BK288) hg (Kd.S_ne HO_8.out BK288.out (by decide))); have n2_ := zA (hb); have n3_ := zA (ho); clear BK287; clear BK288; clear HB; clear HO_8; clear HO296; have BK287 := n0_; have BK288 := n1_; have HB := n2_; have HO299 := n3_; clear n0_ n1_ n2_ n3_; clear ho hb hg hat))
                go_roundg k3
                case measure => have := HJ3.out; have := HK2.out; have := HK3.out; omega
                case rel => exact ⟨(y297), (wrap64 (x10_3 + 1)), (by first | rfl | (simp; done) | (simp [*]; done)), H', ⟨by have := HJ3.out; have := HK2.out; have := HK3.out; omega⟩, ⟨by (with_reducible repeat (first | apply Kd.S_alloc | apply Kd.S_drewN | apply Kd.S_drew)); exact HO299.out⟩, ⟨by repeat (first | (with_reducible first | exact HB.out | apply below_alloc | apply pw_below_drewN | apply below_drew1 | refine below_set ?_ GE287.out | refine below_set ?_ GE288.out) | exact HB.out)⟩⟩
               ·rw [if_neg c27] at H
                exact absurd H (by simp)
              ·rw [if_neg c26] at H
               have c26b0 : decide (t293 < a2) = false := decide_eq_false c26; clear c26; have H' := zA H; clear H; have n0_ := zA (Kd.S_drew HO_8.out); have n1_ := zA (blk_drew BK287.out); have n2_ := zA (blk_drew BK288.out); have n3_ := zA (below_drew1 HB.out); clear HO_8; clear BK287; clear BK288; clear HB; have HO_8 := n0_; have BK287 := n1_; have BK288 := n2_; have HB := n3_; clear n0_ n1_ n2_ n3_; have p289 : 0 ≤ (x9_2 : Int) := of_decide_eq_true (by first | (with_reducible assumption) | assumption); have q289 : x9_2 < (l0.length : Int) := of_decide_eq_true (by first | (with_reducible assumption) | assumption)
               obtain ⟨ad289, e289, hx289_0, hx289_1, hx289_2, hx289_3, hx289_4⟩ := at_T42 HR0.out x9_2 p289 q289
               have hw289_4 := hx289_4; have hw289_3 := hx289_3; have hw289_2 := hx289_2; have hw289_1 := hx289_1; have hw289_0 := hx289_0
               obtain rfl : ad275 = ad289 := (by injection e289)
               replace hx289_0 := (HB.out.cell (World.block_lt_of_cell? w _ hx289_0)).trans hx289_0
               replace hx289_1 := (HB.out.cell (World.block_lt_of_cell? w _ hx289_1)).trans hx289_1
               replace hx289_2 := (HB.out.cell (World.block_lt_of_cell? w _ hx289_2)).trans hx289_2
               replace hx289_3 := (HB.out.cell (World.block_lt_of_cell? w _ hx289_3)).trans hx289_3
               replace hx289_4 := (HB.out.cell (World.block_lt_of_cell? w _ hx289_4)).trans hx289_4
               replace p289 := eq_true p289
               replace q289 := eq_true q289
               have p290 : 0 ≤ (x10_3 : Int) := of_decide_eq_true (by first | (with_reducible assumption) | assumption); have q290 : x10_3 < (l0.length : Int) := of_decide_eq_true (by first | (with_reducible assumption) | assumption)
               obtain ⟨ad290, e290, hx290_0, hx290_1, hx290_2, hx290_3, hx290_4⟩ := at_T42 HR0.out x10_3 p290 q290
               have hw290_4 := hx290_4; have hw290_3 := hx290_3; have hw290_2 := hx290_2; have hw290_1 := hx290_1; have hw290_0 := hx290_0
               obtain rfl : ad275 = ad290 := (by injection e290)
               replace hx290_0 := (HB.out.cell (World.block_lt_of_cell? w _ hx290_0)).trans hx290_0
               replace hx290_1 := (HB.out.cell (World.block_lt_of_cell? w _ hx290_1)).trans hx290_1
               replace hx290_2 := (HB.out.cell (World.block_lt_of_cell? w _ hx290_2)).trans hx290_2
               replace hx290_3 := (HB.out.cell (World.block_lt_of_cell? w _ hx290_3)).trans hx290_3
               replace hx290_4 := (HB.out.cell (World.block_lt_of_cell? w _ hx290_4)).trans hx290_4
               replace p290 := eq_true p290
               replace q290 := eq_true q290
               have p291 : 0 ≤ (x10_3 : Int) := of_decide_eq_true (by first | (with_reducible assumption) | assumption); have q291 : x10_3 < (l0.length : Int) := of_decide_eq_true (by first | (with_reducible assumption) | assumption)
               obtain ⟨ad291, e291, hx291_0, hx291_1, hx291_2, hx291_3, hx291_4⟩ := at_T42 HR0.out x10_3 p291 q291
               have hw291_4 := hx291_4; have hw291_3 := hx291_3; have hw291_2 := hx291_2; have hw291_1 := hx291_1; have hw291_0 := hx291_0
               obtain rfl : ad275 = ad291 := (by injection e291)
               replace hx291_0 := (HB.out.cell (World.block_lt_of_cell? w _ hx291_0)).trans hx291_0
               replace hx291_1 := (HB.out.cell (World.block_lt_of_cell? w _ hx291_1)).trans hx291_1
               replace hx291_2 := (HB.out.cell (World.block_lt_of_cell? w _ hx291_2)).trans hx291_2
               replace hx291_3 := (HB.out.cell (World.block_lt_of_cell? w _ hx291_3)).trans hx291_3
               replace hx291_4 := (HB.out.cell (World.block_lt_of_cell? w _ hx291_4)).trans hx291_4
               replace p291 := eq_true p291
               replace q291 := eq_true q291
               refine start_ (n := 27) (S := fun w' => w'.cell? ⟨gb287, 0, none⟩ = some (.int .i64 t276) ∧ w'.cell? ⟨gb287, 1, none⟩ = some (.string t277) ∧ w'.cell? ⟨gb287, 2, none⟩ = some (.int .i64 t278) ∧ w'.cell? ⟨gb287, 3, none⟩ = some (.int .i64 t279) ∧ w'.cell? ⟨gb287, 4, none⟩ = some (.int .i64 t280) ∧ w'.cell? ⟨gb288, 0, none⟩ = some (.int .i64 t282) ∧ w'.cell? ⟨gb288, 1, none⟩ = some (.string t283) ∧ w'.cell? ⟨gb288, 2, none⟩ = some (.int .i64 t284) ∧ w'.cell? ⟨gb288, 3, none⟩ = some (.int .i64 t285) ∧ w'.cell? ⟨gb288, 4, none⟩ = some (.int .i64 t286) ∧ w'.cell? (ad275.add ((x9_2).toNat * 5)) = some (.int .i64 ((rd_T42 l0 x9_2).f0)) ∧ w'.cell? ⟨(ad275.add ((x9_2).toNat * 5)).block, (ad275.add ((x9_2).toNat * 5)).off + 1, none⟩ = some (.string ((rd_T42 l0 x9_2).f1)) ∧ w'.cell? ⟨(ad275.add ((x9_2).toNat * 5)).block, (ad275.add ((x9_2).toNat * 5)).off + 2, none⟩ = some (.int .i64 ((rd_T42 l0 x9_2).f2)) ∧ w'.cell? ⟨(ad275.add ((x9_2).toNat * 5)).block, (ad275.add ((x9_2).toNat * 5)).off + 3, none⟩ = some (.int .i64 ((rd_T42 l0 x9_2).f3)) ∧ w'.cell? ⟨(ad275.add ((x9_2).toNat * 5)).block, (ad275.add ((x9_2).toNat * 5)).off + 4, none⟩ = some (.int .i64 ((rd_T42 l0 x9_2).f4)) ∧ w'.cell? (ad275.add ((x10_3).toNat * 5)) = some (.int .i64 ((rd_T42 l0 x10_3).f0)) ∧ w'.cell? ⟨(ad275.add ((x10_3).toNat * 5)).block, (ad275.add ((x10_3).toNat * 5)).off + 1, none⟩ = some (.string ((rd_T42 l0 x10_3).f1)) ∧ w'.cell? ⟨(ad275.add ((x10_3).toNat * 5)).block, (ad275.add ((x10_3).toNat * 5)).off + 2, none⟩ = some (.int .i64 ((rd_T42 l0 x10_3).f2)) ∧ w'.cell? ⟨(ad275.add ((x10_3).toNat * 5)).block, (ad275.add ((x10_3).toNat * 5)).off + 3, none⟩ = some (.int .i64 ((rd_T42 l0 x10_3).f3)) ∧ w'.cell? ⟨(ad275.add ((x10_3).toNat * 5)).block, (ad275.add ((x10_3).toNat * 5)).off + 4, none⟩ = some (.int .i64 ((rd_T42 l0 x10_3).f4)) ∧ w'.cell? (ad275.add ((x10_3).toNat * 5)) = some (.int .i64 ((rd_T42 l0 x10_3).f0)) ∧ w'.cell? ⟨(ad275.add ((x10_3).toNat * 5)).block, (ad275.add ((x10_3).toNat * 5)).off + 1, none⟩ = some (.string ((rd_T42 l0 x10_3).f1)) ∧ w'.cell? ⟨(ad275.add ((x10_3).toNat * 5)).block, (ad275.add ((x10_3).toNat * 5)).off + 2, none⟩ = some (.int .i64 ((rd_T42 l0 x10_3).f2)) ∧ w'.cell? ⟨(ad275.add ((x10_3).toNat * 5)).block, (ad275.add ((x10_3).toNat * 5)).off + 3, none⟩ = some (.int .i64 ((rd_T42 l0 x10_3).f3)) ∧ w'.cell? ⟨(ad275.add ((x10_3).toNat * 5)).block, (ad275.add ((x10_3).toNat * 5)).off + 4, none⟩ = some (.int .i64 ((rd_T42 l0 x10_3).f4))) (ds := []) #[false, false, false, false, false, false, false, false, false, false, false, false, false, false, false, false, false, false, false, false, false, false, false, false, false, false, false] (by kernel_rfl) rfl rfl ⟨(blk_cell BK287.out 0).trans rfl, (blk_cell BK287.out 1).trans rfl, (blk_cell BK287.out 2).trans rfl, (blk_cell BK287.out 3).trans rfl, (blk_cell BK287.out 4).trans rfl, (blk_cell BK288.out 0).trans rfl, (blk_cell BK288.out 1).trans rfl, (blk_cell BK288.out 2).trans rfl, (blk_cell BK288.out 3).trans rfl, (blk_cell BK288.out 4).trans rfl, ((HB.out.cell (World.block_lt_of_cell? w _ hw289_0)).trans hw289_0), ((HB.out.cell (World.block_lt_of_cell? w _ hw289_1)).trans hw289_1), ((HB.out.cell (World.block_lt_of_cell? w _ hw289_2)).trans hw289_2), ((HB.out.cell (World.block_lt_of_cell? w _ hw289_3)).trans hw289_3), ((HB.out.cell (World.block_lt_of_cell? w _ hw289_4)).trans hw289_4), ((HB.out.cell (World.block_lt_of_cell? w _ hw290_0)).trans hw290_0), ((HB.out.cell (World.block_lt_of_cell? w _ hw290_1)).trans hw290_1), ((HB.out.cell (World.block_lt_of_cell? w _ hw290_2)).trans hw290_2), ((HB.out.cell (World.block_lt_of_cell? w _ hw290_3)).trans hw290_3), ((HB.out.cell (World.block_lt_of_cell? w _ hw290_4)).trans hw290_4), ((HB.out.cell (World.block_lt_of_cell? w _ hw291_0)).trans hw291_0), ((HB.out.cell (World.block_lt_of_cell? w _ hw291_1)).trans hw291_1), ((HB.out.cell (World.block_lt_of_cell? w _ hw291_2)).trans hw291_2), ((HB.out.cell (World.block_lt_of_cell? w _ hw291_3)).trans hw291_3), ((HB.out.cell (World.block_lt_of_cell? w _ hw291_4)).trans hw291_4)⟩ (fun hHeld => ?_); refine with_tabW spec_FadedApart.tab11 spec_FadedApart.bits11 (fun HT_ HW_ => ?_)
               generalize w44.drew = w72 at HO_8 BK287 BK288 HB hx289_0 hx289_1 hx289_2 hx289_3 hx289_4 hx290_0 hx290_1 hx290_2 hx290_3 hx290_4 hx291_0 hx291_1 hx291_2 hx291_3 hx291_4 hHeld ⊢
               refine pure_ (i := 0) (N := some 54) (v := ?_) (a' := ?_) #[true, false, false, false, false, false, false, false, false, false, false, false, false, false, false, false, false, false, false, false, false, false, false, false, false, false, false] rfl rfl (any_of HT_.out (by kernel_rfl)) (fun _ _ _ h => h) (Or.inl ⟨by rfl, ?_⟩) ?_ ?_
               rotate_left
               ·intro w'
                go_simp
                with_reducible rfl
               rotate_left
               ·simp only [Act.put, List.setIfInBounds_toArray, List.set_cons_zero, List.set_cons_succ, i64_w, i32_w]
                rfl
               refine pure_ (i := 1) (N := some 55) (v := ?_) (a' := ?_) #[true, true, false, false, false, false, false, false, false, false, false, false, false, false, false, false, false, false, false, false, false, false, false, false, false, false, false] rfl rfl (any_of HT_.out (by kernel_rfl)) (fun _ _ _ h => h) (Or.inl ⟨by rfl, ?_⟩) ?_ ?_
               rotate_left
               ·intro w'
                go_simp
                with_reducible rfl
               rotate_left
               ·simp only [Act.put, List.setIfInBounds_toArray, List.set_cons_zero, List.set_cons_succ, i64_w, i32_w]
                rfl
               refine pure_ (i := 2) (N := some 56) (v := ?_) (a' := ?_) #[true, true, true, false, false, false, false, false, false, false, false, false, false, false, false, false, false, false, false, false, false, false, false, false, false, false, false] rfl rfl (any_of HT_.out (by kernel_rfl)) (fun _ _ _ h => h) (Or.inl ⟨by rfl, ?_⟩) ?_ ?_
               rotate_left
               ·intro w'
                go_simp
                with_reducible rfl
               rotate_left
               ·simp only [Act.put, List.setIfInBounds_toArray, List.set_cons_zero, List.set_cons_succ, i64_w, i32_w]
                rfl
               refine pure_ (i := 4) (N := some 58) (v := ?_) (a' := ?_) #[true, true, true, false, true, false, false, false, false, false, false, false, false, false, false, false, false, false, false, false, false, false, false, false, false, false, false] rfl rfl (any_of HT_.out (by kernel_rfl)) (fun _ _ _ h => h) (Or.inl ⟨by rfl, ?_⟩) ?_ ?_
               rotate_left
               ·intro w'
                go_simp
                with_reducible rfl
               rotate_left
               ·simp only [Act.put, List.setIfInBounds_toArray, List.set_cons_zero, List.set_cons_succ, i64_w, i32_w]
                rfl
               refine pure_ (i := 5) (N := some 59) (v := ?_) (a' := ?_) #[true, true, true, false, true, true, false, false, false, false, false, false, false, false, false, false, false, false, false, false, false, false, false, false, false, false, false] rfl rfl (any_of HT_.out (by kernel_rfl)) (fun _ _ _ h => h) (Or.inl ⟨by rfl, ?_⟩) ?_ ?_
               rotate_left
               ·intro w'
                go_simp
                with_reducible rfl
               rotate_left
               ·simp only [Act.put, List.setIfInBounds_toArray, List.set_cons_zero, List.set_cons_succ, i64_w, i32_w]
                rfl
               refine pure_ (i := 6) (N := some 60) (v := ?_) (a' := ?_) #[true, true, true, false, true, true, true, false, false, false, false, false, false, false, false, false, false, false, false, false, false, false, false, false, false, false, false] rfl rfl (any_of HT_.out (by kernel_rfl)) (fun _ _ _ h => h) (Or.inl ⟨by rfl, ?_⟩) ?_ ?_
               rotate_left
               ·intro w'
                go_simp
                with_reducible rfl
               rotate_left
               ·simp only [Act.put, List.setIfInBounds_toArray, List.set_cons_zero, List.set_cons_succ, i64_w, i32_w]
                rfl
               refine pure_ (i := 7) (N := some 61) (v := ?_) (a' := ?_) #[true, true, true, false, true, true, true, true, false, false, false, false, false, false, false, false, false, false, false, false, false, false, false, false, false, false, false] rfl rfl (any_of HT_.out (by kernel_rfl)) (fun _ _ _ h => h) (Or.inl ⟨by rfl, ?_⟩) ?_ ?_
               rotate_left
               ·intro w'
                go_simp
                with_reducible rfl
               rotate_left
               ·simp only [Act.put, List.setIfInBounds_toArray, List.set_cons_zero, List.set_cons_succ, i64_w, i32_w]
                rfl
               refine pure_ (i := 9) (N := some 63) (v := ?_) (a' := ?_) #[true, true, true, false, true, true, true, true, false, true, false, false, false, false, false, false, false, false, false, false, false, false, false, false, false, false, false] rfl rfl (any_of HT_.out (by kernel_rfl)) (fun _ _ _ h => h) (Or.inl ⟨by rfl, ?_⟩) ?_ ?_
               rotate_left
               ·intro w'
                go_simp
                with_reducible rfl
               rotate_left
               ·simp only [Act.put, List.setIfInBounds_toArray, List.set_cons_zero, List.set_cons_succ, i64_w, i32_w]
                rfl
               refine pure_ (i := 10) (N := some 64) (v := ?_) (a' := ?_) #[true, true, true, false, true, true, true, true, false, true, true, false, false, false, false, false, false, false, false, false, false, false, false, false, false, false, false] rfl rfl (any_of HT_.out (by kernel_rfl)) (fun _ _ _ h => h) (Or.inl ⟨by rfl, ?_⟩) ?_ ?_
               rotate_left
               ·intro w'
                go_simp
                with_reducible rfl
               rotate_left
               ·simp only [Act.put, List.setIfInBounds_toArray, List.set_cons_zero, List.set_cons_succ, i64_w, i32_w]
                rfl
               refine pure_ (i := 11) (N := some 65) (v := ?_) (a' := ?_) #[true, true, true, false, true, true, true, true, false, true, true, true, false, false, false, false, false, false, false, false, false, false, false, false, false, false, false] rfl rfl (any_of HT_.out (by kernel_rfl)) (fun _ _ _ h => h) (Or.inl ⟨by rfl, ?_⟩) ?_ ?_
               rotate_left
               ·intro w'
                go_simp
                with_reducible rfl
               rotate_left
               ·simp only [Act.put, List.setIfInBounds_toArray, List.set_cons_zero, List.set_cons_succ, i64_w, i32_w]
                rfl
               refine pure_ (i := 12) (N := some 66) (v := ?_) (a' := ?_) #[true, true, true, false, true, true, true, true, false, true, true, true, true, false, false, false, false, false, false, false, false, false, false, false, false, false, false] rfl rfl (any_of HT_.out (by kernel_rfl)) (fun _ _ _ h => h) (Or.inl ⟨by rfl, ?_⟩) ?_ ?_
               rotate_left
               ·intro w'
                go_simp
                with_reducible rfl
               rotate_left
               ·simp only [Act.put, List.setIfInBounds_toArray, List.set_cons_zero, List.set_cons_succ, i64_w, i32_w]
                rfl
               refine pure_ (i := 15) (N := some 69) (v := ?_) (a' := ?_) #[true, true, true, false, true, true, true, true, false, true, true, true, true, false, false, true, false, false, false, false, false, false, false, false, false, false, false] rfl rfl (any_of HT_.out (by kernel_rfl)) (fun _ _ _ h => h) (Or.inl ⟨by rfl, ?_⟩) ?_ ?_
               rotate_left
               ·intro w'
                go_simp
                with_reducible rfl
               rotate_left
               ·simp only [Act.put, List.setIfInBounds_toArray, List.set_cons_zero, List.set_cons_succ, i64_w, i32_w]
                rfl
               refine take_ (i := 3) (N := some 57) (v := ?_) (a' := ?_) #[true, true, true, true, true, true, true, true, false, true, true, true, true, false, false, true, false, false, false, false, false, false, false, false, false, false, false] rfl rfl (take_ofW HT_.out HW_.out (by kernel_rfl)) (fun _ _ _ h => h) (Or.inl ⟨by rfl, ?_⟩) hHeld ?_ ?_
               rotate_left
               ·rintro w' ⟨s0, s1, s2, s3, s4, s5, s6, s7, s8, s9, s10, s11, s12, s13, s14, s15, s16, s17, s18, s19, s20, s21, s22, s23, s24⟩
                go_simp
                with_reducible rfl
               rotate_left
               ·simp only [Act.put, List.setIfInBounds_toArray, List.set_cons_zero, List.set_cons_succ, i64_w, i32_w]
                rfl
               refine take_ (i := 8) (N := some 62) (v := ?_) (a' := ?_) #[true, true, true, true, true, true, true, true, true, true, true, true, true, false, false, true, false, false, false, false, false, false, false, false, false, false, false] rfl rfl (take_ofW HT_.out HW_.out (by kernel_rfl)) (fun _ _ _ h => h) (Or.inl ⟨by rfl, ?_⟩) hHeld ?_ ?_
               rotate_left
               ·rintro w' ⟨s0, s1, s2, s3, s4, s5, s6, s7, s8, s9, s10, s11, s12, s13, s14, s15, s16, s17, s18, s19, s20, s21, s22, s23, s24⟩
                go_simp
                with_reducible rfl
               rotate_left
               ·simp only [Act.put, List.setIfInBounds_toArray, List.set_cons_zero, List.set_cons_succ, i64_w, i32_w]
                rfl
               refine take_ (i := 13) (N := some 67) (v := ?_) (a' := ?_) #[true, true, true, true, true, true, true, true, true, true, true, true, true, true, false, true, false, false, false, false, false, false, false, false, false, false, false] rfl rfl (take_ofW HT_.out HW_.out (by kernel_rfl)) (fun _ _ _ h => h) (Or.inl ⟨by rfl, ?_⟩) hHeld ?_ ?_
               rotate_left
               ·rintro w' ⟨s0, s1, s2, s3, s4, s5, s6, s7, s8, s9, s10, s11, s12, s13, s14, s15, s16, s17, s18, s19, s20, s21, s22, s23, s24⟩
                go_simp
                with_reducible rfl
               rotate_left
               ·simp only [Act.put, List.setIfInBounds_toArray, List.set_cons_zero, List.set_cons_succ, i64_w, i32_w]
                rfl
               refine one_ (i := 14) (N := some 68) #[true, true, true, true, true, true, true, true, true, true, true, true, true, true, true, true, false, false, false, false, false, false, false, false, false, false, false] rfl rfl (one_of HT_.out (by kernel_rfl)) (by decide) (fun K hK => ?_)
               refine goes_ Tryd.func21 (by kernel_rfl) rfl #[.agg #[.int .i64 ((rd_T42 l0 x9_2).f0), .string ((rd_T42 l0 x9_2).f1), .int .i64 ((rd_T42 l0 x9_2).f2), .int .i64 ((rd_T42 l0 x9_2).f3), .int .i64 ((rd_T42 l0 x9_2).f4)], .int .i64 ((rd_T42 l0 x10_3).f2), .int .i64 ((rd_T42 l0 x10_3).f3)] (by rfl) rfl rfl (zM) ?_
               with_reducible refine (spec_l3Far.calls ((rd_T42 l0 x9_2).f0) ((rd_T42 l0 x9_2).f1) ((rd_T42 l0 x9_2).f2) ((rd_T42 l0 x9_2).f3) ((rd_T42 l0 x9_2).f4) ((rd_T42 l0 x10_3).f2) ((rd_T42 l0 x10_3).f3) t292 _ A23.out).mono ?_
               rintro e w73 ⟨rfl, hb⟩
               refine ⟨_, rfl, ?_⟩
               have n0_ := zA (Kd.S_below (by (with_reducible repeat (first | apply Kd.S_alloc | apply Kd.S_drewN | apply Kd.S_drew)); exact HO_8.out) hb); have n1_ := zL BK287 hb; have n2_ := zL BK288 hb; have n3_ := zA (below_step (zW2 HB GE287 GE288) hb); clear HO_8; clear BK287; clear BK288; clear HB; have HO_8 := n0_; have BK287 := n1_; have BK288 := n2_; have HB := n3_; clear n0_ n1_ n2_ n3_; (try clear hb); (try clear hb2); (try clear hk); (try clear hi)
               refine hK.out _ _ ⟨(blk_cell BK287.out 0).trans rfl, (blk_cell BK287.out 1).trans rfl, (blk_cell BK287.out 2).trans rfl, (blk_cell BK287.out 3).trans rfl, (blk_cell BK287.out 4).trans rfl, (blk_cell BK288.out 0).trans rfl, (blk_cell BK288.out 1).trans rfl, (blk_cell BK288.out 2).trans rfl, (blk_cell BK288.out 3).trans rfl, (blk_cell BK288.out 4).trans rfl, ((HB.out.cell (World.block_lt_of_cell? w _ hw289_0)).trans hw289_0), ((HB.out.cell (World.block_lt_of_cell? w _ hw289_1)).trans hw289_1), ((HB.out.cell (World.block_lt_of_cell? w _ hw289_2)).trans hw289_2), ((HB.out.cell (World.block_lt_of_cell? w _ hw289_3)).trans hw289_3), ((HB.out.cell (World.block_lt_of_cell? w _ hw289_4)).trans hw289_4), ((HB.out.cell (World.block_lt_of_cell? w _ hw290_0)).trans hw290_0), ((HB.out.cell (World.block_lt_of_cell? w _ hw290_1)).trans hw290_1), ((HB.out.cell (World.block_lt_of_cell? w _ hw290_2)).trans hw290_2), ((HB.out.cell (World.block_lt_of_cell? w _ hw290_3)).trans hw290_3), ((HB.out.cell (World.block_lt_of_cell? w _ hw290_4)).trans hw290_4), ((HB.out.cell (World.block_lt_of_cell? w _ hw291_0)).trans hw291_0), ((HB.out.cell (World.block_lt_of_cell? w _ hw291_1)).trans hw291_1), ((HB.out.cell (World.block_lt_of_cell? w _ hw291_2)).trans hw291_2), ((HB.out.cell (World.block_lt_of_cell? w _ hw291_3)).trans hw291_3), ((HB.out.cell (World.block_lt_of_cell? w _ hw291_4)).trans hw291_4)⟩ (fun hHeld => ?_)
               clear hK K
               refine norm_ (a' := ?_) ?_ ?_
               rotate_left
               ·show Act.put _ (some 68) _ = _
                simp only [Act.put, List.setIfInBounds_toArray, List.set_cons_zero, List.set_cons_succ, i64_w, i32_w]
                rfl
               refine pure_ (i := 16) (N := some 70) (v := ?_) (a' := ?_) #[true, true, true, true, true, true, true, true, true, true, true, true, true, true, true, true, true, false, false, false, false, false, false, false, false, false, false] rfl rfl (any_of HT_.out (by kernel_rfl)) (fun _ _ _ h => h) (Or.inl ⟨by rfl, ?_⟩) ?_ ?_
               rotate_left
               ·intro w'
                go_simp
                with_reducible rfl
               rotate_left
               ·simp only [Act.put, List.setIfInBounds_toArray, List.set_cons_zero, List.set_cons_succ, i64_w, i32_w]
                rfl
               refine pure_ (i := 17) (N := some 71) (v := ?_) (a' := ?_) #[true, true, true, true, true, true, true, true, true, true, true, true, true, true, true, true, true, true, false, false, false, false, false, false, false, false, false] rfl rfl (any_of HT_.out (by kernel_rfl)) (fun _ _ _ h => h) (Or.inl ⟨by rfl, ?_⟩) ?_ ?_
               rotate_left
               ·intro w'
                go_simp
                with_reducible rfl
               rotate_left
               ·simp only [Act.put, List.setIfInBounds_toArray, List.set_cons_zero, List.set_cons_succ, i64_w, i32_w]
                rfl
               refine pure_ (i := 19) (N := some 73) (v := ?_) (a' := ?_) #[true, true, true, true, true, true, true, true, true, true, true, true, true, true, true, true, true, true, false, true, false, false, false, false, false, false, false] rfl rfl (any_of HT_.out (by kernel_rfl)) (fun _ _ _ h => h) (Or.inl ⟨by rfl, ?_⟩) ?_ ?_
               rotate_left
               ·intro w'
                go_simp
                with_reducible rfl
               rotate_left
               ·simp only [Act.put, List.setIfInBounds_toArray, List.set_cons_zero, List.set_cons_succ, i64_w, i32_w]
                rfl
               refine pure_ (i := 21) (N := some 75) (v := ?_) (a' := ?_) #[true, true, true, true, true, true, true, true, true, true, true, true, true, true, true, true, true, true, false, true, false, true, false, false, false, false, false] rfl rfl (any_of HT_.out (by kernel_rfl)) (fun _ _ _ h => h) (Or.inl ⟨by rfl, ?_⟩) ?_ ?_
               rotate_left
               ·intro w'
                go_simp
                with_reducible rfl
               rotate_left
               ·simp only [Act.put, List.setIfInBounds_toArray, List.set_cons_zero, List.set_cons_succ, i64_w, i32_w]
                rfl
               refine pure_ (i := 24) (N := some 78) (v := ?_) (a' := ?_) #[true, true, true, true, true, true, true, true, true, true, true, true, true, true, true, true, true, true, false, true, false, true, false, false, true, false, false] rfl rfl (any_of HT_.out (by kernel_rfl)) (fun _ _ _ h => h) (Or.inl ⟨by rfl, ?_⟩) ?_ ?_
               rotate_left
               ·intro w'
                go_simp
                with_reducible rfl
               rotate_left
               ·simp only [Act.put, List.setIfInBounds_toArray, List.set_cons_zero, List.set_cons_succ, i64_w, i32_w]
                rfl
               refine take_ (i := 18) (N := some 72) (v := ?_) (a' := ?_) #[true, true, true, true, true, true, true, true, true, true, true, true, true, true, true, true, true, true, true, true, false, true, false, false, true, false, false] rfl rfl (take_ofW HT_.out HW_.out (by kernel_rfl)) (fun _ _ _ h => h) (Or.inl ⟨by rfl, ?_⟩) hHeld ?_ ?_
               rotate_left
               ·rintro w' ⟨s0, s1, s2, s3, s4, s5, s6, s7, s8, s9, s10, s11, s12, s13, s14, s15, s16, s17, s18, s19, s20, s21, s22, s23, s24⟩
                go_simp
                with_reducible rfl
               rotate_left
               ·simp only [Act.put, List.setIfInBounds_toArray, List.set_cons_zero, List.set_cons_succ, i64_w, i32_w]
                rfl
               refine take_ (i := 20) (N := some 74) (v := ?_) (a' := ?_) #[true, true, true, true, true, true, true, true, true, true, true, true, true, true, true, true, true, true, true, true, true, true, false, false, true, false, false] rfl rfl (take_ofW HT_.out HW_.out (by kernel_rfl)) (fun _ _ _ h => h) (Or.inl ⟨by rfl, ?_⟩) hHeld ?_ ?_
               rotate_left
               ·rintro w' ⟨s0, s1, s2, s3, s4, s5, s6, s7, s8, s9, s10, s11, s12, s13, s14, s15, s16, s17, s18, s19, s20, s21, s22, s23, s24⟩
                go_simp
                with_reducible rfl
               rotate_left
               ·simp only [Act.put, List.setIfInBounds_toArray, List.set_cons_zero, List.set_cons_succ, i64_w, i32_w]
                rfl
               refine take_ (i := 22) (N := some 76) (v := ?_) (a' := ?_) #[true, true, true, true, true, true, true, true, true, true, true, true, true, true, true, true, true, true, true, true, true, true, true, false, true, false, false] rfl rfl (take_ofW HT_.out HW_.out (by kernel_rfl)) (fun _ _ _ h => h) (Or.inl ⟨by rfl, ?_⟩) hHeld ?_ ?_
               rotate_left
               ·rintro w' ⟨s0, s1, s2, s3, s4, s5, s6, s7, s8, s9, s10, s11, s12, s13, s14, s15, s16, s17, s18, s19, s20, s21, s22, s23, s24⟩
                go_simp
                with_reducible rfl
               rotate_left
               ·simp only [Act.put, List.setIfInBounds_toArray, List.set_cons_zero, List.set_cons_succ, i64_w, i32_w]
                rfl
               refine one_ (i := 23) (N := some 77) #[true, true, true, true, true, true, true, true, true, true, true, true, true, true, true, true, true, true, true, true, true, true, true, true, true, false, false] rfl rfl (one_of HT_.out (by kernel_rfl)) (by decide) (fun K hK => ?_)
               refine goes_ Tryd.func21 (by kernel_rfl) rfl #[.agg #[.int .i64 t276, .string t277, .int .i64 t278, .int .i64 t279, .int .i64 t280], .int .i64 t284, .int .i64 t285] (by rfl) rfl rfl (zM) ?_
               with_reducible refine (spec_l3Far.calls t276 t277 t278 t279 t280 t284 t285 t293 _ A25.out).mono ?_
               rintro e w74 ⟨rfl, hb⟩
               refine ⟨_, rfl, ?_⟩
               have n0_ := zA (Kd.S_below (by (with_reducible repeat (first | apply Kd.S_alloc | apply Kd.S_drewN | apply Kd.S_drew)); exact HO_8.out) hb); have n1_ := zL BK287 hb; have n2_ := zL BK288 hb; have n3_ := zA (below_step (zW2 HB GE287 GE288) hb); clear HO_8; clear BK287; clear BK288; clear HB; have HO_8 := n0_; have BK287 := n1_; have BK288 := n2_; have HB := n3_; clear n0_ n1_ n2_ n3_; (try clear hb); (try clear hb2); (try clear hk); (try clear hi)
               refine hK.out _ _ ⟨(blk_cell BK287.out 0).trans rfl, (blk_cell BK287.out 1).trans rfl, (blk_cell BK287.out 2).trans rfl, (blk_cell BK287.out 3).trans rfl, (blk_cell BK287.out 4).trans rfl, (blk_cell BK288.out 0).trans rfl, (blk_cell BK288.out 1).trans rfl, (blk_cell BK288.out 2).trans rfl, (blk_cell BK288.out 3).trans rfl, (blk_cell BK288.out 4).trans rfl, ((HB.out.cell (World.block_lt_of_cell? w _ hw289_0)).trans hw289_0), ((HB.out.cell (World.block_lt_of_cell? w _ hw289_1)).trans hw289_1), ((HB.out.cell (World.block_lt_of_cell? w _ hw289_2)).trans hw289_2), ((HB.out.cell (World.block_lt_of_cell? w _ hw289_3)).trans hw289_3), ((HB.out.cell (World.block_lt_of_cell? w _ hw289_4)).trans hw289_4), ((HB.out.cell (World.block_lt_of_cell? w _ hw290_0)).trans hw290_0), ((HB.out.cell (World.block_lt_of_cell? w _ hw290_1)).trans hw290_1), ((HB.out.cell (World.block_lt_of_cell? w _ hw290_2)).trans hw290_2), ((HB.out.cell (World.block_lt_of_cell? w _ hw290_3)).trans hw290_3), ((HB.out.cell (World.block_lt_of_cell? w _ hw290_4)).trans hw290_4), ((HB.out.cell (World.block_lt_of_cell? w _ hw291_0)).trans hw291_0), ((HB.out.cell (World.block_lt_of_cell? w _ hw291_1)).trans hw291_1), ((HB.out.cell (World.block_lt_of_cell? w _ hw291_2)).trans hw291_2), ((HB.out.cell (World.block_lt_of_cell? w _ hw291_3)).trans hw291_3), ((HB.out.cell (World.block_lt_of_cell? w _ hw291_4)).trans hw291_4)⟩ (fun hHeld => ?_)
               clear hK K
               refine norm_ (a' := ?_) ?_ ?_
               rotate_left
               ·show Act.put _ (some 77) _ = _
                simp only [Act.put, List.setIfInBounds_toArray, List.set_cons_zero, List.set_cons_succ, i64_w, i32_w]
                rfl
               refine pure_ (i := 25) (N := some 79) (v := ?_) (a' := ?_) #[true, true, true, true, true, true, true, true, true, true, true, true, true, true, true, true, true, true, true, true, true, true, true, true, true, true, false] rfl rfl (any_of HT_.out (by kernel_rfl)) (fun _ _ _ h => h) (Or.inl ⟨by rfl, ?_⟩) ?_ ?_
               rotate_left
               ·intro w'
                go_simp
                with_reducible rfl
               rotate_left
               ·simp only [Act.put, List.setIfInBounds_toArray, List.set_cons_zero, List.set_cons_succ, i64_w, i32_w]
                rfl
               refine pure_ (i := 26) (N := some 80) (v := ?_) (a' := ?_) #[true, true, true, true, true, true, true, true, true, true, true, true, true, true, true, true, true, true, true, true, true, true, true, true, true, true, true] rfl rfl (any_of HT_.out (by kernel_rfl)) (fun _ _ _ h => h) (Or.inl ⟨by rfl, ?_⟩) ?_ ?_
               rotate_left
               ·intro w'
                go_simp
                with_reducible rfl
               rotate_left
               ·simp only [Act.put, List.setIfInBounds_toArray, List.set_cons_zero, List.set_cons_succ, i64_w, i32_w]
                rfl
               refine done_ (done_of HT_.out (by kernel_rfl)) ?_
               try go_wp2
               go_roundg k3
               case measure => have := HJ3.out; have := HK2.out; have := HK3.out; omega
               case rel => exact ⟨(x8_3), (wrap64 (x10_3 + 1)), (by first | rfl | (simp; done) | (simp [*]; done)), H', ⟨by have := HJ3.out; have := HK2.out; have := HK3.out; omega⟩, ⟨by (with_reducible repeat (first | apply Kd.S_alloc | apply Kd.S_drewN | apply Kd.S_drew)); exact HO_8.out⟩, ⟨by repeat (first | (with_reducible first | exact HB.out | apply below_alloc | apply pw_below_drewN | apply below_drew1 | refine below_set ?_ GE287.out | refine below_set ?_ GE288.out) | exact HB.out)⟩⟩
             ·rw [if_neg c24] at H
              have c24b0 : decide (a2 ≤ t292) = false := decide_eq_false c24; clear c24; have H' := zA H; clear H; have n0_ := zA (Kd.S_drew HO_8.out); have n1_ := zA (blk_drew BK287.out); have n2_ := zA (blk_drew BK288.out); have n3_ := zA (below_drew1 HB.out); clear HO_8; clear BK287; clear BK288; clear HB; have HO_8 := n0_; have BK287 := n1_; have BK288 := n2_; have HB := n3_; clear n0_ n1_ n2_ n3_; have p289 : 0 ≤ (x9_2 : Int) := of_decide_eq_true (by first | (with_reducible assumption) | assumption); have q289 : x9_2 < (l0.length : Int) := of_decide_eq_true (by first | (with_reducible assumption) | assumption)
              obtain ⟨ad289, e289, hx289_0, hx289_1, hx289_2, hx289_3, hx289_4⟩ := at_T42 HR0.out x9_2 p289 q289
              have hw289_4 := hx289_4; have hw289_3 := hx289_3; have hw289_2 := hx289_2; have hw289_1 := hx289_1; have hw289_0 := hx289_0
              obtain rfl : ad275 = ad289 := (by injection e289)
              replace hx289_0 := (HB.out.cell (World.block_lt_of_cell? w _ hx289_0)).trans hx289_0
              replace hx289_1 := (HB.out.cell (World.block_lt_of_cell? w _ hx289_1)).trans hx289_1
              replace hx289_2 := (HB.out.cell (World.block_lt_of_cell? w _ hx289_2)).trans hx289_2
              replace hx289_3 := (HB.out.cell (World.block_lt_of_cell? w _ hx289_3)).trans hx289_3
              replace hx289_4 := (HB.out.cell (World.block_lt_of_cell? w _ hx289_4)).trans hx289_4
              replace p289 := eq_true p289
              replace q289 := eq_true q289
              have p290 : 0 ≤ (x10_3 : Int) := of_decide_eq_true (by first | (with_reducible assumption) | assumption); have q290 : x10_3 < (l0.length : Int) := of_decide_eq_true (by first | (with_reducible assumption) | assumption)
              obtain ⟨ad290, e290, hx290_0, hx290_1, hx290_2, hx290_3, hx290_4⟩ := at_T42 HR0.out x10_3 p290 q290
              have hw290_4 := hx290_4; have hw290_3 := hx290_3; have hw290_2 := hx290_2; have hw290_1 := hx290_1; have hw290_0 := hx290_0
              obtain rfl : ad275 = ad290 := (by injection e290)
              replace hx290_0 := (HB.out.cell (World.block_lt_of_cell? w _ hx290_0)).trans hx290_0
              replace hx290_1 := (HB.out.cell (World.block_lt_of_cell? w _ hx290_1)).trans hx290_1
              replace hx290_2 := (HB.out.cell (World.block_lt_of_cell? w _ hx290_2)).trans hx290_2
              replace hx290_3 := (HB.out.cell (World.block_lt_of_cell? w _ hx290_3)).trans hx290_3
              replace hx290_4 := (HB.out.cell (World.block_lt_of_cell? w _ hx290_4)).trans hx290_4
              replace p290 := eq_true p290
              replace q290 := eq_true q290
              have p291 : 0 ≤ (x10_3 : Int) := of_decide_eq_true (by first | (with_reducible assumption) | assumption); have q291 : x10_3 < (l0.length : Int) := of_decide_eq_true (by first | (with_reducible assumption) | assumption)
              obtain ⟨ad291, e291, hx291_0, hx291_1, hx291_2, hx291_3, hx291_4⟩ := at_T42 HR0.out x10_3 p291 q291
              have hw291_4 := hx291_4; have hw291_3 := hx291_3; have hw291_2 := hx291_2; have hw291_1 := hx291_1; have hw291_0 := hx291_0
              obtain rfl : ad275 = ad291 := (by injection e291)
              replace hx291_0 := (HB.out.cell (World.block_lt_of_cell? w _ hx291_0)).trans hx291_0
              replace hx291_1 := (HB.out.cell (World.block_lt_of_cell? w _ hx291_1)).trans hx291_1
              replace hx291_2 := (HB.out.cell (World.block_lt_of_cell? w _ hx291_2)).trans hx291_2
              replace hx291_3 := (HB.out.cell (World.block_lt_of_cell? w _ hx291_3)).trans hx291_3
              replace hx291_4 := (HB.out.cell (World.block_lt_of_cell? w _ hx291_4)).trans hx291_4
              replace p291 := eq_true p291
              replace q291 := eq_true q291
              refine start_ (n := 27) (S := fun w' => w'.cell? (ad275.add ((x9_2).toNat * 5)) = some (.int .i64 ((rd_T42 l0 x9_2).f0)) ∧ w'.cell? ⟨(ad275.add ((x9_2).toNat * 5)).block, (ad275.add ((x9_2).toNat * 5)).off + 1, none⟩ = some (.string ((rd_T42 l0 x9_2).f1)) ∧ w'.cell? ⟨(ad275.add ((x9_2).toNat * 5)).block, (ad275.add ((x9_2).toNat * 5)).off + 2, none⟩ = some (.int .i64 ((rd_T42 l0 x9_2).f2)) ∧ w'.cell? ⟨(ad275.add ((x9_2).toNat * 5)).block, (ad275.add ((x9_2).toNat * 5)).off + 3, none⟩ = some (.int .i64 ((rd_T42 l0 x9_2).f3)) ∧ w'.cell? ⟨(ad275.add ((x9_2).toNat * 5)).block, (ad275.add ((x9_2).toNat * 5)).off + 4, none⟩ = some (.int .i64 ((rd_T42 l0 x9_2).f4)) ∧ w'.cell? (ad275.add ((x10_3).toNat * 5)) = some (.int .i64 ((rd_T42 l0 x10_3).f0)) ∧ w'.cell? ⟨(ad275.add ((x10_3).toNat * 5)).block, (ad275.add ((x10_3).toNat * 5)).off + 1, none⟩ = some (.string ((rd_T42 l0 x10_3).f1)) ∧ w'.cell? ⟨(ad275.add ((x10_3).toNat * 5)).block, (ad275.add ((x10_3).toNat * 5)).off + 2, none⟩ = some (.int .i64 ((rd_T42 l0 x10_3).f2)) ∧ w'.cell? ⟨(ad275.add ((x10_3).toNat * 5)).block, (ad275.add ((x10_3).toNat * 5)).off + 3, none⟩ = some (.int .i64 ((rd_T42 l0 x10_3).f3)) ∧ w'.cell? ⟨(ad275.add ((x10_3).toNat * 5)).block, (ad275.add ((x10_3).toNat * 5)).off + 4, none⟩ = some (.int .i64 ((rd_T42 l0 x10_3).f4)) ∧ w'.cell? (ad275.add ((x10_3).toNat * 5)) = some (.int .i64 ((rd_T42 l0 x10_3).f0)) ∧ w'.cell? ⟨(ad275.add ((x10_3).toNat * 5)).block, (ad275.add ((x10_3).toNat * 5)).off + 1, none⟩ = some (.string ((rd_T42 l0 x10_3).f1)) ∧ w'.cell? ⟨(ad275.add ((x10_3).toNat * 5)).block, (ad275.add ((x10_3).toNat * 5)).off + 2, none⟩ = some (.int .i64 ((rd_T42 l0 x10_3).f2)) ∧ w'.cell? ⟨(ad275.add ((x10_3).toNat * 5)).block, (ad275.add ((x10_3).toNat * 5)).off + 3, none⟩ = some (.int .i64 ((rd_T42 l0 x10_3).f3)) ∧ w'.cell? ⟨(ad275.add ((x10_3).toNat * 5)).block, (ad275.add ((x10_3).toNat * 5)).off + 4, none⟩ = some (.int .i64 ((rd_T42 l0 x10_3).f4))) (ds := []) #[false, false, false, false, false, false, false, false, false, false, false, false, false, false, false, false, false, false, false, false, false, false, false, false, false, false, false] (by kernel_rfl) rfl rfl ⟨((HB.out.cell (World.block_lt_of_cell? w _ hw289_0)).trans hw289_0), ((HB.out.cell (World.block_lt_of_cell? w _ hw289_1)).trans hw289_1), ((HB.out.cell (World.block_lt_of_cell? w _ hw289_2)).trans hw289_2), ((HB.out.cell (World.block_lt_of_cell? w _ hw289_3)).trans hw289_3), ((HB.out.cell (World.block_lt_of_cell? w _ hw289_4)).trans hw289_4), ((HB.out.cell (World.block_lt_of_cell? w _ hw290_0)).trans hw290_0), ((HB.out.cell (World.block_lt_of_cell? w _ hw290_1)).trans hw290_1), ((HB.out.cell (World.block_lt_of_cell? w _ hw290_2)).trans hw290_2), ((HB.out.cell (World.block_lt_of_cell? w _ hw290_3)).trans hw290_3), ((HB.out.cell (World.block_lt_of_cell? w _ hw290_4)).trans hw290_4), ((HB.out.cell (World.block_lt_of_cell? w _ hw291_0)).trans hw291_0), ((HB.out.cell (World.block_lt_of_cell? w _ hw291_1)).trans hw291_1), ((HB.out.cell (World.block_lt_of_cell? w _ hw291_2)).trans hw291_2), ((HB.out.cell (World.block_lt_of_cell? w _ hw291_3)).trans hw291_3), ((HB.out.cell (World.block_lt_of_cell? w _ hw291_4)).trans hw291_4)⟩ (fun hHeld => ?_); refine with_tabW spec_FadedApart.tab11 spec_FadedApart.bits11 (fun HT_ HW_ => ?_)
              generalize w44.drew = w92 at HO_8 BK287 BK288 HB hx289_0 hx289_1 hx289_2 hx289_3 hx289_4 hx290_0 hx290_1 hx290_2 hx290_3 hx290_4 hx291_0 hx291_1 hx291_2 hx291_3 hx291_4 hHeld ⊢
              refine pure_ (i := 0) (N := some 54) (v := ?_) (a' := ?_) #[true, false, false, false, false, false, false, false, false, false, false, false, false, false, false, false, false, false, false, false, false, false, false, false, false, false, false] rfl rfl (any_of HT_.out (by kernel_rfl)) (fun _ _ _ h => h) (Or.inl ⟨by rfl, ?_⟩) ?_ ?_
              rotate_left
              ·intro w'
               go_simp
               with_reducible rfl
              rotate_left
              ·simp only [Act.put, List.setIfInBounds_toArray, List.set_cons_zero, List.set_cons_succ, i64_w, i32_w]
               rfl
              refine pure_ (i := 1) (N := some 55) (v := ?_) (a' := ?_) #[true, true, false, false, false, false, false, false, false, false, false, false, false, false, false, false, false, false, false, false, false, false, false, false, false, false, false] rfl rfl (any_of HT_.out (by kernel_rfl)) (fun _ _ _ h => h) (Or.inl ⟨by rfl, ?_⟩) ?_ ?_
              rotate_left
              ·intro w'
               go_simp
               with_reducible rfl
              rotate_left
              ·simp only [Act.put, List.setIfInBounds_toArray, List.set_cons_zero, List.set_cons_succ, i64_w, i32_w]
               rfl
              refine pure_ (i := 2) (N := some 56) (v := ?_) (a' := ?_) #[true, true, true, false, false, false, false, false, false, false, false, false, false, false, false, false, false, false, false, false, false, false, false, false, false, false, false] rfl rfl (any_of HT_.out (by kernel_rfl)) (fun _ _ _ h => h) (Or.inl ⟨by rfl, ?_⟩) ?_ ?_
              rotate_left
              ·intro w'
               go_simp
               with_reducible rfl
              rotate_left
              ·simp only [Act.put, List.setIfInBounds_toArray, List.set_cons_zero, List.set_cons_succ, i64_w, i32_w]
               rfl
              refine pure_ (i := 4) (N := some 58) (v := ?_) (a' := ?_) #[true, true, true, false, true, false, false, false, false, false, false, false, false, false, false, false, false, false, false, false, false, false, false, false, false, false, false] rfl rfl (any_of HT_.out (by kernel_rfl)) (fun _ _ _ h => h) (Or.inl ⟨by rfl, ?_⟩) ?_ ?_
              rotate_left
              ·intro w'
               go_simp
               with_reducible rfl
              rotate_left
              ·simp only [Act.put, List.setIfInBounds_toArray, List.set_cons_zero, List.set_cons_succ, i64_w, i32_w]
               rfl
              refine pure_ (i := 5) (N := some 59) (v := ?_) (a' := ?_) #[true, true, true, false, true, true, false, false, false, false, false, false, false, false, false, false, false, false, false, false, false, false, false, false, false, false, false] rfl rfl (any_of HT_.out (by kernel_rfl)) (fun _ _ _ h => h) (Or.inl ⟨by rfl, ?_⟩) ?_ ?_
              rotate_left
              ·intro w'
               go_simp
               with_reducible rfl
              rotate_left
              ·simp only [Act.put, List.setIfInBounds_toArray, List.set_cons_zero, List.set_cons_succ, i64_w, i32_w]
               rfl
              refine pure_ (i := 6) (N := some 60) (v := ?_) (a' := ?_) #[true, true, true, false, true, true, true, false, false, false, false, false, false, false, false, false, false, false, false, false, false, false, false, false, false, false, false] rfl rfl (any_of HT_.out (by kernel_rfl)) (fun _ _ _ h => h) (Or.inl ⟨by rfl, ?_⟩) ?_ ?_
              rotate_left
              ·intro w'
               go_simp
               with_reducible rfl
              rotate_left
              ·simp only [Act.put, List.setIfInBounds_toArray, List.set_cons_zero, List.set_cons_succ, i64_w, i32_w]
               rfl
              refine pure_ (i := 7) (N := some 61) (v := ?_) (a' := ?_) #[true, true, true, false, true, true, true, true, false, false, false, false, false, false, false, false, false, false, false, false, false, false, false, false, false, false, false] rfl rfl (any_of HT_.out (by kernel_rfl)) (fun _ _ _ h => h) (Or.inl ⟨by rfl, ?_⟩) ?_ ?_
              rotate_left
              ·intro w'
               go_simp
               with_reducible rfl
              rotate_left
              ·simp only [Act.put, List.setIfInBounds_toArray, List.set_cons_zero, List.set_cons_succ, i64_w, i32_w]
               rfl
              refine pure_ (i := 9) (N := some 63) (v := ?_) (a' := ?_) #[true, true, true, false, true, true, true, true, false, true, false, false, false, false, false, false, false, false, false, false, false, false, false, false, false, false, false] rfl rfl (any_of HT_.out (by kernel_rfl)) (fun _ _ _ h => h) (Or.inl ⟨by rfl, ?_⟩) ?_ ?_
              rotate_left
              ·intro w'
               go_simp
               with_reducible rfl
              rotate_left
              ·simp only [Act.put, List.setIfInBounds_toArray, List.set_cons_zero, List.set_cons_succ, i64_w, i32_w]
               rfl
              refine pure_ (i := 10) (N := some 64) (v := ?_) (a' := ?_) #[true, true, true, false, true, true, true, true, false, true, true, false, false, false, false, false, false, false, false, false, false, false, false, false, false, false, false] rfl rfl (any_of HT_.out (by kernel_rfl)) (fun _ _ _ h => h) (Or.inl ⟨by rfl, ?_⟩) ?_ ?_
              rotate_left
              ·intro w'
               go_simp
               with_reducible rfl
              rotate_left
              ·simp only [Act.put, List.setIfInBounds_toArray, List.set_cons_zero, List.set_cons_succ, i64_w, i32_w]
               rfl
              refine pure_ (i := 11) (N := some 65) (v := ?_) (a' := ?_) #[true, true, true, false, true, true, true, true, false, true, true, true, false, false, false, false, false, false, false, false, false, false, false, false, false, false, false] rfl rfl (any_of HT_.out (by kernel_rfl)) (fun _ _ _ h => h) (Or.inl ⟨by rfl, ?_⟩) ?_ ?_
              rotate_left
              ·intro w'
               go_simp
               with_reducible rfl
              rotate_left
              ·simp only [Act.put, List.setIfInBounds_toArray, List.set_cons_zero, List.set_cons_succ, i64_w, i32_w]
               rfl
              refine pure_ (i := 12) (N := some 66) (v := ?_) (a' := ?_) #[true, true, true, false, true, true, true, true, false, true, true, true, true, false, false, false, false, false, false, false, false, false, false, false, false, false, false] rfl rfl (any_of HT_.out (by kernel_rfl)) (fun _ _ _ h => h) (Or.inl ⟨by rfl, ?_⟩) ?_ ?_
              rotate_left
              ·intro w'
               go_simp
               with_reducible rfl
              rotate_left
              ·simp only [Act.put, List.setIfInBounds_toArray, List.set_cons_zero, List.set_cons_succ, i64_w, i32_w]
               rfl
              refine pure_ (i := 15) (N := some 69) (v := ?_) (a' := ?_) #[true, true, true, false, true, true, true, true, false, true, true, true, true, false, false, true, false, false, false, false, false, false, false, false, false, false, false] rfl rfl (any_of HT_.out (by kernel_rfl)) (fun _ _ _ h => h) (Or.inl ⟨by rfl, ?_⟩) ?_ ?_
              rotate_left
              ·intro w'
               go_simp
               with_reducible rfl
              rotate_left
              ·simp only [Act.put, List.setIfInBounds_toArray, List.set_cons_zero, List.set_cons_succ, i64_w, i32_w]
               rfl
              refine take_ (i := 3) (N := some 57) (v := ?_) (a' := ?_) #[true, true, true, true, true, true, true, true, false, true, true, true, true, false, false, true, false, false, false, false, false, false, false, false, false, false, false] rfl rfl (take_ofW HT_.out HW_.out (by kernel_rfl)) (fun _ _ _ h => h) (Or.inl ⟨by rfl, ?_⟩) hHeld ?_ ?_
              rotate_left
              ·rintro w' ⟨s0, s1, s2, s3, s4, s5, s6, s7, s8, s9, s10, s11, s12, s13, s14⟩
               go_simp
               with_reducible rfl
              rotate_left
              ·simp only [Act.put, List.setIfInBounds_toArray, List.set_cons_zero, List.set_cons_succ, i64_w, i32_w]
               rfl
              refine take_ (i := 8) (N := some 62) (v := ?_) (a' := ?_) #[true, true, true, true, true, true, true, true, true, true, true, true, true, false, false, true, false, false, false, false, false, false, false, false, false, false, false] rfl rfl (take_ofW HT_.out HW_.out (by kernel_rfl)) (fun _ _ _ h => h) (Or.inl ⟨by rfl, ?_⟩) hHeld ?_ ?_
              rotate_left
              ·rintro w' ⟨s0, s1, s2, s3, s4, s5, s6, s7, s8, s9, s10, s11, s12, s13, s14⟩
               go_simp
               with_reducible rfl
              rotate_left
              ·simp only [Act.put, List.setIfInBounds_toArray, List.set_cons_zero, List.set_cons_succ, i64_w, i32_w]
               rfl
              refine take_ (i := 13) (N := some 67) (v := ?_) (a' := ?_) #[true, true, true, true, true, true, true, true, true, true, true, true, true, true, false, true, false, false, false, false, false, false, false, false, false, false, false] rfl rfl (take_ofW HT_.out HW_.out (by kernel_rfl)) (fun _ _ _ h => h) (Or.inl ⟨by rfl, ?_⟩) hHeld ?_ ?_
              rotate_left
              ·rintro w' ⟨s0, s1, s2, s3, s4, s5, s6, s7, s8, s9, s10, s11, s12, s13, s14⟩
               go_simp
               with_reducible rfl
              rotate_left
              ·simp only [Act.put, List.setIfInBounds_toArray, List.set_cons_zero, List.set_cons_succ, i64_w, i32_w]
               rfl
              refine one_ (i := 14) (N := some 68) #[true, true, true, true, true, true, true, true, true, true, true, true, true, true, true, true, false, false, false, false, false, false, false, false, false, false, false] rfl rfl (one_of HT_.out (by kernel_rfl)) (by decide) (fun K hK => ?_)
              refine goes_ Tryd.func21 (by kernel_rfl) rfl #[.agg #[.int .i64 ((rd_T42 l0 x9_2).f0), .string ((rd_T42 l0 x9_2).f1), .int .i64 ((rd_T42 l0 x9_2).f2), .int .i64 ((rd_T42 l0 x9_2).f3), .int .i64 ((rd_T42 l0 x9_2).f4)], .int .i64 ((rd_T42 l0 x10_3).f2), .int .i64 ((rd_T42 l0 x10_3).f3)] (by rfl) rfl rfl (zM) ?_
              with_reducible refine (spec_l3Far.calls ((rd_T42 l0 x9_2).f0) ((rd_T42 l0 x9_2).f1) ((rd_T42 l0 x9_2).f2) ((rd_T42 l0 x9_2).f3) ((rd_T42 l0 x9_2).f4) ((rd_T42 l0 x10_3).f2) ((rd_T42 l0 x10_3).f3) t292 _ A23.out).mono ?_
              rintro e w93 ⟨rfl, hb⟩
              refine ⟨_, rfl, ?_⟩
              have n0_ := zA (Kd.S_below (by (with_reducible repeat (first | apply Kd.S_alloc | apply Kd.S_drewN | apply Kd.S_drew)); exact HO_8.out) hb); have n1_ := zL BK287 hb; have n2_ := zL BK288 hb; have n3_ := zA (below_step (zW2 HB GE287 GE288) hb); clear HO_8; clear BK287; clear BK288; clear HB; have HO_8 := n0_; have BK287 := n1_; have BK288 := n2_; have HB := n3_; clear n0_ n1_ n2_ n3_; (try clear hb); (try clear hb2); (try clear hk); (try clear hi)
              refine hK.out _ _ ⟨((HB.out.cell (World.block_lt_of_cell? w _ hw289_0)).trans hw289_0), ((HB.out.cell (World.block_lt_of_cell? w _ hw289_1)).trans hw289_1), ((HB.out.cell (World.block_lt_of_cell? w _ hw289_2)).trans hw289_2), ((HB.out.cell (World.block_lt_of_cell? w _ hw289_3)).trans hw289_3), ((HB.out.cell (World.block_lt_of_cell? w _ hw289_4)).trans hw289_4), ((HB.out.cell (World.block_lt_of_cell? w _ hw290_0)).trans hw290_0), ((HB.out.cell (World.block_lt_of_cell? w _ hw290_1)).trans hw290_1), ((HB.out.cell (World.block_lt_of_cell? w _ hw290_2)).trans hw290_2), ((HB.out.cell (World.block_lt_of_cell? w _ hw290_3)).trans hw290_3), ((HB.out.cell (World.block_lt_of_cell? w _ hw290_4)).trans hw290_4), ((HB.out.cell (World.block_lt_of_cell? w _ hw291_0)).trans hw291_0), ((HB.out.cell (World.block_lt_of_cell? w _ hw291_1)).trans hw291_1), ((HB.out.cell (World.block_lt_of_cell? w _ hw291_2)).trans hw291_2), ((HB.out.cell (World.block_lt_of_cell? w _ hw291_3)).trans hw291_3), ((HB.out.cell (World.block_lt_of_cell? w _ hw291_4)).trans hw291_4)⟩ (fun hHeld => ?_)
              clear hK K
              refine norm_ (a' := ?_) ?_ ?_
              rotate_left
              ·show Act.put _ (some 68) _ = _
               simp only [Act.put, List.setIfInBounds_toArray, List.set_cons_zero, List.set_cons_succ, i64_w, i32_w]
               rfl
              refine pure_ (i := 16) (N := some 70) (v := ?_) (a' := ?_) #[true, true, true, true, true, true, true, true, true, true, true, true, true, true, true, true, true, false, false, false, false, false, false, false, false, false, false] rfl rfl (any_of HT_.out (by kernel_rfl)) (fun _ _ _ h => h) (Or.inl ⟨by rfl, ?_⟩) ?_ ?_
              rotate_left
              ·intro w'
               go_simp
               with_reducible rfl
              rotate_left
              ·simp only [Act.put, List.setIfInBounds_toArray, List.set_cons_zero, List.set_cons_succ, i64_w, i32_w]
               rfl
              refine pure_ (i := 17) (N := some 71) (v := ?_) (a' := ?_) #[true, true, true, true, true, true, true, true, true, true, true, true, true, true, true, true, true, true, false, false, false, false, false, false, false, false, false] rfl rfl (any_of HT_.out (by kernel_rfl)) (fun _ _ _ h => h) (Or.inl ⟨by rfl, ?_⟩) ?_ ?_
              rotate_left
              ·intro w'
               go_simp
               with_reducible rfl
              rotate_left
              ·simp only [Act.put, List.setIfInBounds_toArray, List.set_cons_zero, List.set_cons_succ, i64_w, i32_w]
               rfl
              refine pure_ (i := 18) (N := some 72) (v := undef) (a' := ?_) #[true, true, true, true, true, true, true, true, true, true, true, true, true, true, true, true, true, true, true, false, false, false, false, false, false, false, false] rfl rfl (any_of HT_.out (by kernel_rfl)) (fun _ _ _ h => h) (Or.inr ⟨by rfl, rfl⟩) ?_ ?_
              rotate_left
              ·simp only [Act.put, List.setIfInBounds_toArray, List.set_cons_zero, List.set_cons_succ, i64_w, i32_w]
               rfl
              refine pure_ (i := 19) (N := some 73) (v := undef) (a' := ?_) #[true, true, true, true, true, true, true, true, true, true, true, true, true, true, true, true, true, true, true, true, false, false, false, false, false, false, false] rfl rfl (any_of HT_.out (by kernel_rfl)) (fun _ _ _ h => h) (Or.inr ⟨by rfl, rfl⟩) ?_ ?_
              rotate_left
              ·simp only [Act.put, List.setIfInBounds_toArray, List.set_cons_zero, List.set_cons_succ, i64_w, i32_w]
               rfl
              refine pure_ (i := 20) (N := some 74) (v := undef) (a' := ?_) #[true, true, true, true, true, true, true, true, true, true, true, true, true, true, true, true, true, true, true, true, true, false, false, false, false, false, false] rfl rfl (any_of HT_.out (by kernel_rfl)) (fun _ _ _ h => h) (Or.inr ⟨by rfl, rfl⟩) ?_ ?_
              rotate_left
              ·simp only [Act.put, List.setIfInBounds_toArray, List.set_cons_zero, List.set_cons_succ, i64_w, i32_w]
               rfl
              refine pure_ (i := 21) (N := some 75) (v := undef) (a' := ?_) #[true, true, true, true, true, true, true, true, true, true, true, true, true, true, true, true, true, true, true, true, true, true, false, false, false, false, false] rfl rfl (any_of HT_.out (by kernel_rfl)) (fun _ _ _ h => h) (Or.inr ⟨by rfl, rfl⟩) ?_ ?_
              rotate_left
              ·simp only [Act.put, List.setIfInBounds_toArray, List.set_cons_zero, List.set_cons_succ, i64_w, i32_w]
               rfl
              refine pure_ (i := 22) (N := some 76) (v := undef) (a' := ?_) #[true, true, true, true, true, true, true, true, true, true, true, true, true, true, true, true, true, true, true, true, true, true, true, false, false, false, false] rfl rfl (any_of HT_.out (by kernel_rfl)) (fun _ _ _ h => h) (Or.inr ⟨by rfl, rfl⟩) ?_ ?_
              rotate_left
              ·simp only [Act.put, List.setIfInBounds_toArray, List.set_cons_zero, List.set_cons_succ, i64_w, i32_w]
               rfl
              refine pure_ (i := 23) (N := some 77) (v := undef) (a' := ?_) #[true, true, true, true, true, true, true, true, true, true, true, true, true, true, true, true, true, true, true, true, true, true, true, true, false, false, false] rfl rfl (any_of HT_.out (by kernel_rfl)) (fun _ _ _ h => h) (Or.inr ⟨by rfl, rfl⟩) ?_ ?_
              rotate_left
              ·simp only [Act.put, List.setIfInBounds_toArray, List.set_cons_zero, List.set_cons_succ, i64_w, i32_w]
               rfl
              refine pure_ (i := 24) (N := some 78) (v := undef) (a' := ?_) #[true, true, true, true, true, true, true, true, true, true, true, true, true, true, true, true, true, true, true, true, true, true, true, true, true, false, false] rfl rfl (any_of HT_.out (by kernel_rfl)) (fun _ _ _ h => h) (Or.inr ⟨by rfl, rfl⟩) ?_ ?_
              rotate_left
              ·simp only [Act.put, List.setIfInBounds_toArray, List.set_cons_zero, List.set_cons_succ, i64_w, i32_w]
               rfl
              refine pure_ (i := 25) (N := some 79) (v := undef) (a' := ?_) #[true, true, true, true, true, true, true, true, true, true, true, true, true, true, true, true, true, true, true, true, true, true, true, true, true, true, false] rfl rfl (any_of HT_.out (by kernel_rfl)) (fun _ _ _ h => h) (Or.inr ⟨by rfl, rfl⟩) ?_ ?_
              rotate_left
              ·simp only [Act.put, List.setIfInBounds_toArray, List.set_cons_zero, List.set_cons_succ, i64_w, i32_w]
               rfl
              refine pure_ (i := 26) (N := some 80) (v := ?_) (a' := ?_) #[true, true, true, true, true, true, true, true, true, true, true, true, true, true, true, true, true, true, true, true, true, true, true, true, true, true, true] rfl rfl (any_of HT_.out (by kernel_rfl)) (fun _ _ _ h => h) (Or.inl ⟨by rfl, ?_⟩) ?_ ?_
              rotate_left
              ·intro w'
               go_simp
               with_reducible rfl
              rotate_left
              ·simp only [Act.put, List.setIfInBounds_toArray, List.set_cons_zero, List.set_cons_succ, i64_w, i32_w]
               rfl
              refine done_ (done_of HT_.out (by kernel_rfl)) ?_
              try go_wp2
              go_roundg k3
              case measure => have := HJ3.out; have := HK2.out; have := HK3.out; omega
              case rel => exact ⟨(x8_3), (wrap64 (x10_3 + 1)), (by first | rfl | (simp; done) | (simp [*]; done)), H', ⟨by have := HJ3.out; have := HK2.out; have := HK3.out; omega⟩, ⟨by (with_reducible repeat (first | apply Kd.S_alloc | apply Kd.S_drewN | apply Kd.S_drew)); exact HO_8.out⟩, ⟨by repeat (first | (with_reducible first | exact HB.out | apply below_alloc | apply pw_below_drewN | apply below_drew1 | refine below_set ?_ GE287.out | refine below_set ?_ GE288.out) | exact HB.out)⟩⟩
            ·rw [if_neg c21] at H
             exact absurd H (by simp)
           ·rw [if_neg c19] at H
            exact absurd H (by simp)
          ·rw [if_neg c18] at H
           exact absurd H (by simp)
         ·rw [if_neg c17] at H
          have c17b0 : decide (x10_3 < (l0.length : Int)) = false := decide_eq_false c17; clear c17; have H' := zA H; clear H
          go_wp2
          go_roundg k3
          case measure => have := HJ3.out; have := HK2.out; have := HK3.out; omega
          case rel => exact ⟨(x8_3), (wrap64 (x9_2 + 1)), (by first | rfl | (simp; done) | (simp [*]; done)), H', ⟨by have := HJ3.out; have := HK2.out; have := HK3.out; omega⟩, ⟨by (with_reducible repeat (first | apply Kd.S_alloc | apply Kd.S_drewN | apply Kd.S_drew)); exact HO_8.out⟩, ⟨by repeat (first | (with_reducible first | exact HB.out | apply below_alloc | apply pw_below_drewN | apply below_drew1) | exact HB.out)⟩⟩
      ·rw [if_neg c16] at H
       have c16b0 : decide (x9_2 < (l0.length : Int)) = false := decide_eq_false c16; clear c16
       simp only [Option.some.injEq, Prod.mk.injEq] at H
       obtain ⟨rfl, rfl⟩ := H
       go_wp2
       go_ret2
       exact ⟨_, by first | rfl | (simp [errW_none, errW_some] <;> rfl) | (simp [*, errW_none, errW_some] <;> rfl), by (with_reducible repeat (first | apply Kd.S_alloc | apply Kd.S_drewN | apply Kd.S_drew)); exact HO_8.out, by repeat (first | (with_reducible first | exact HB.out | apply below_alloc | apply pw_below_drewN | apply below_drew1) | exact HB.out)⟩
end Go.Proofs.YtggikmajopmchaaDoor.G
