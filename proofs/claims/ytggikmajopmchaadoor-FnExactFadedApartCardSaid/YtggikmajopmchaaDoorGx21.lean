-- Printed by a program of this session (wip/tools/gp.sh); Lean checks it.
import Derived.Test.YtggikmajopmchaaDoorGx0
import Derived.Test.YtggikmajopmchaaDoorGz
import Derived.Test.YtggikmajopmchaaDoorGx2
import Derived.Test.YtggikmajopmchaaDoorGx3
import Derived.Test.YtggikmajopmchaaDoorGx4
import Derived.Test.YtggikmajopmchaaDoorGx5
import Derived.Test.YtggikmajopmchaaDoorGx6
import Derived.Test.YtggikmajopmchaaDoorGx7
import Derived.Test.YtggikmajopmchaaDoorGx19
import Derived.Test.YtggikmajopmchaaDoorGs0
import Derived.Test.YtggikmajopmchaaDoorGs3
namespace Go.Proofs.YtggikmajopmchaaDoor.G
open Go.RowKit Go.Proofs.YtggikmajopmchaaDoorW.PrintWords Go.Proofs.YtggikmajopmchaaDoorW.PrintLast Go.Proofs.YtggikmajopmchaaDoorW.PrintMore
attribute [local go_sem] isSome_setCell_ max2_int min2_int max_two min_two max_three min_three max_four min_four   -- for this text's walks alone
set_option linter.unusedVariables false
set_option linter.unusedSimpArgs false

theorem S_keptB2 {α : Type} {d : Kd α} {e : Nat} {base : Nat} {ok S : Nat → Prop} {W W2 : World} {v : Value} {xs : List α} (h : Kd.S d e W base ok v xs) (hk : Kept W W2 S) (hne : ∀ k, ok k → ¬ S k) : Kd.S d e W2 base (fun k => ok k ∧ k < W.heap.size) v xs :=
  Kd.S_kept (Kd.S_mono (Kd.S_bound h) (fun _ hk => ⟨hk.1, hk.2.2.1⟩)) hk (fun k hk => hne k hk.1)
theorem cut_len {l : List (List Int)} {m : Int} {r : List (List Int)} (h : gosem_cut.f l m = some r) : r.length = l.length := by
 obtain rfl := Option.some.inj h
 exact marksL_length l m
/-- An elder row of rows and one that a call has made: their blocks lie below and above the heap's size before the call. -/
theorem apart_pair {W w1 : World} {v6 v9 : Value} {x6 x9 : List (List Int)} {ok6 : Nat → Prop} {b : Nat} (h6 : Kd.S (Kd.slice 3 (Kd.int .i64)) 45 W b ok6 v6 x6) (ho : Kd.S (Kd.slice 3 (Kd.int .i64)) 45 w1 W.heap.size (fun _ => True) v9 x9) (hb : Below W.heap.size W w1) (hle : b ≤ W.heap.size) :
  ∃ NN, Kd.S (Kd.slice 3 (Kd.int .i64)) 45 w1 b (fun k_ => k_ < NN) v6 x6 ∧ Kd.S (Kd.slice 3 (Kd.int .i64)) 45 w1 b (fun k_ => NN ≤ k_) v9 x9 :=
 ⟨W.heap.size, Kd.S_mono (Kd.S_old h6 hb) (fun _ hk => hk.2), Kd.S_lower (Kd.S_mono (Kd.S_bound ho) (fun _ hk => hk.2.1)) hle⟩
/-! ### laws_FnExactFadedApart: function 3 -/
mutual
def laws_FnExactFadedApart.j0 : Nat → List (S38) → Int → Int → List (List Int) → Bool → List (S42) → List (List Int) → Bool → Bool → Option (Bool)
 | 0, _, _, _, _, _, _, _, _, _ => none
 | k + 1, x0, x1, x2, x8, x9, x10, x11, x12, x48 => if x48 = true then (some false) else ((laws_toShadeS.f k x0).bind fun t355 => ((laws_eqShadeS.f k x10 t355).bind fun t358 => (if t358 = true then ((laws_markShadeS.f k x10 1).bind fun bt359 => (if bt359.1 < 0 then (laws_FnExactFadedApart.j1 k x0 x1 x2 x8 x9 x11 true) else ((laws_eqIntSS.f k x11 x8).bind fun t361 => (if t361 = true then (laws_FnExactFadedApart.j1 k x0 x1 x2 x8 x9 x11 (x12 != x9)) else (laws_FnExactFadedApart.j1 k x0 x1 x2 x8 x9 x11 true))))) else (some false))))
def laws_FnExactFadedApart.j1 : Nat → List (S38) → Int → Int → List (List Int) → Bool → List (List Int) → Bool → Option (Bool)
 | 0, _, _, _, _, _, _, _ => none
 | k + 1, x0, x1, x2, x8, x9, x11, x69 => if x69 = true then (some false) else ((laws_markIntSS.f x11 1).bind fun t362 => ((gosem_cut.f x11 1).bind fun t363 => ((laws_heldIntSS.f k t363 1).bind fun t366 => (if t366 < 0 then (some false) else (if t366 = t362 then ((laws_toShadeS.f k x0).bind fun t367 => ((impl_FadedApart.f k t367 x1 x2).bind fun bt370 => ((laws_eqIntSS.f k bt370.1 x8).bind fun t374 => (if t374 = true then (laws_FnExactFadedApart.j2 k t363 t362 (bt370.2 != x9)) else (laws_FnExactFadedApart.j2 k t363 t362 true))))) else (some false))))))
def laws_FnExactFadedApart.j2 : Nat → List (List Int) → Int → Bool → Option (Bool)
 | 0, _, _, _ => none
 | k + 1, x11, x14, x97 => if x97 = true then (some false) else ((laws_heldIntSS.f k x11 1).bind fun t375 => (if t375 < 0 then (some false) else (if t375 = x14 then (some true) else (some false))))
end
def laws_FnExactFadedApart.f (k : Nat) (l0 : List (S38)) (a1 : Int) (a2 : Int) : Option (Bool) := (laws_szShadeS.f k l0 1048576).bind fun t339 => (if t339 < 0 then (some true) else ((laws_toShadeS.f k l0).bind fun t340 => ((spec_FadedApart.f k t340 a1 a2).bind fun bt343 => ((laws_toShadeS.f k l0).bind fun t347 => ((impl_FadedApart.f k t347 a1 a2).bind fun bt350 => ((laws_eqIntSS.f k bt350.1 bt343.1).bind fun t354 => (if t354 = true then (laws_FnExactFadedApart.j0 k l0 a1 a2 bt343.1 bt343.2 t347 bt350.1 bt350.2 (bt350.2 != bt343.2)) else (laws_FnExactFadedApart.j0 k l0 a1 a2 bt343.1 bt343.2 t347 bt350.1 bt350.2 true))))))))
theorem laws_FnExactFadedApart.mono_l : ∀ k, (∀ y0 y1 y2 y3 y4 y5 y6 y7 y8, LeO (laws_FnExactFadedApart.j0 k y0 y1 y2 y3 y4 y5 y6 y7 y8) (laws_FnExactFadedApart.j0 (k + 1) y0 y1 y2 y3 y4 y5 y6 y7 y8)) ∧ (∀ y0 y1 y2 y3 y4 y5 y6, LeO (laws_FnExactFadedApart.j1 k y0 y1 y2 y3 y4 y5 y6) (laws_FnExactFadedApart.j1 (k + 1) y0 y1 y2 y3 y4 y5 y6)) ∧ (∀ y0 y1 y2, LeO (laws_FnExactFadedApart.j2 k y0 y1 y2) (laws_FnExactFadedApart.j2 (k + 1) y0 y1 y2))
 | 0 => ⟨fun _ _ _ _ _ _ _ _ _ r h => by simp [laws_FnExactFadedApart.j0] at h, fun _ _ _ _ _ _ _ r h => by simp [laws_FnExactFadedApart.j1] at h, fun _ _ _ r h => by simp [laws_FnExactFadedApart.j2] at h⟩
 | k + 1 => by
  obtain ⟨ih0, ih1, ih2⟩ := laws_FnExactFadedApart.mono_l k
  refine ⟨?_, ?_, ?_⟩
  ·intro y0 y1 y2 y3 y4 y5 y6 y7 y8
   unfold laws_FnExactFadedApart.j0
   repeat' first
   | (with_reducible exact ih0 _ _ _ _ _ _ _ _ _)
   | (with_reducible exact ih1 _ _ _ _ _ _ _)
   | (with_reducible exact ih2 _ _ _)
   | (with_reducible exact impl_FadedApart.mono _ _ _ _)
   | (with_reducible exact laws_eqIntSS.mono _ _ _)
   | (with_reducible exact laws_eqShadeS.mono _ _ _)
   | (with_reducible exact laws_heldIntSS.mono _ _ _)
   | (with_reducible exact laws_markShadeS.mono _ _ _)
   | (with_reducible exact laws_szShadeS.mono _ _ _)
   | (with_reducible exact laws_toShadeS.mono _ _)
   | (with_reducible exact spec_FadedApart.mono _ _ _ _)
   | (with_reducible exact LeO.refl _)
   | (with_reducible exact LeO.none _)
   | (with_reducible refine LeO.ite ?_ ?_)
   | (with_reducible refine LeO.bind ?_ (fun _ => ?_))
   | exact ih0 _ _ _ _ _ _ _ _ _
   | exact ih1 _ _ _ _ _ _ _
   | exact ih2 _ _ _
   | exact impl_FadedApart.mono _ _ _ _
   | exact laws_eqIntSS.mono _ _ _
   | exact laws_eqShadeS.mono _ _ _
   | exact laws_heldIntSS.mono _ _ _
   | exact laws_markShadeS.mono _ _ _
   | exact laws_szShadeS.mono _ _ _
   | exact laws_toShadeS.mono _ _
   | exact spec_FadedApart.mono _ _ _ _
   | exact LeO.none _
   | refine LeO.ite ?_ ?_
   | refine LeO.bind ?_ (fun _ => ?_)
  ·intro y0 y1 y2 y3 y4 y5 y6
   unfold laws_FnExactFadedApart.j1
   repeat' first
   | (with_reducible exact ih0 _ _ _ _ _ _ _ _ _)
   | (with_reducible exact ih1 _ _ _ _ _ _ _)
   | (with_reducible exact ih2 _ _ _)
   | (with_reducible exact impl_FadedApart.mono _ _ _ _)
   | (with_reducible exact laws_eqIntSS.mono _ _ _)
   | (with_reducible exact laws_eqShadeS.mono _ _ _)
   | (with_reducible exact laws_heldIntSS.mono _ _ _)
   | (with_reducible exact laws_markShadeS.mono _ _ _)
   | (with_reducible exact laws_szShadeS.mono _ _ _)
   | (with_reducible exact laws_toShadeS.mono _ _)
   | (with_reducible exact spec_FadedApart.mono _ _ _ _)
   | (with_reducible exact LeO.refl _)
   | (with_reducible exact LeO.none _)
   | (with_reducible refine LeO.ite ?_ ?_)
   | (with_reducible refine LeO.bind ?_ (fun _ => ?_))
   | exact ih0 _ _ _ _ _ _ _ _ _
   | exact ih1 _ _ _ _ _ _ _
   | exact ih2 _ _ _
   | exact impl_FadedApart.mono _ _ _ _
   | exact laws_eqIntSS.mono _ _ _
   | exact laws_eqShadeS.mono _ _ _
   | exact laws_heldIntSS.mono _ _ _
   | exact laws_markShadeS.mono _ _ _
   | exact laws_szShadeS.mono _ _ _
   | exact laws_toShadeS.mono _ _
   | exact spec_FadedApart.mono _ _ _ _
   | exact LeO.none _
   | refine LeO.ite ?_ ?_
   | refine LeO.bind ?_ (fun _ => ?_)
  ·intro y0 y1 y2
   unfold laws_FnExactFadedApart.j2
   repeat' first
   | (with_reducible exact ih0 _ _ _ _ _ _ _ _ _)
   | (with_reducible exact ih1 _ _ _ _ _ _ _)
   | (with_reducible exact ih2 _ _ _)
   | (with_reducible exact impl_FadedApart.mono _ _ _ _)
   | (with_reducible exact laws_eqIntSS.mono _ _ _)
   | (with_reducible exact laws_eqShadeS.mono _ _ _)
   | (with_reducible exact laws_heldIntSS.mono _ _ _)
   | (with_reducible exact laws_markShadeS.mono _ _ _)
   | (with_reducible exact laws_szShadeS.mono _ _ _)
   | (with_reducible exact laws_toShadeS.mono _ _)
   | (with_reducible exact spec_FadedApart.mono _ _ _ _)
   | (with_reducible exact LeO.refl _)
   | (with_reducible exact LeO.none _)
   | (with_reducible refine LeO.ite ?_ ?_)
   | (with_reducible refine LeO.bind ?_ (fun _ => ?_))
   | exact ih0 _ _ _ _ _ _ _ _ _
   | exact ih1 _ _ _ _ _ _ _
   | exact ih2 _ _ _
   | exact impl_FadedApart.mono _ _ _ _
   | exact laws_eqIntSS.mono _ _ _
   | exact laws_eqShadeS.mono _ _ _
   | exact laws_heldIntSS.mono _ _ _
   | exact laws_markShadeS.mono _ _ _
   | exact laws_szShadeS.mono _ _ _
   | exact laws_toShadeS.mono _ _
   | exact spec_FadedApart.mono _ _ _ _
   | exact LeO.none _
   | refine LeO.ite ?_ ?_
   | refine LeO.bind ?_ (fun _ => ?_)
theorem laws_FnExactFadedApart.mono : ∀ a0 a1 a2 k, LeO (laws_FnExactFadedApart.f k a0 a1 a2) (laws_FnExactFadedApart.f (k + 1) a0 a1 a2) := by
 intro a0 a1 a2 k
 obtain ⟨ih0, ih1, ih2⟩ := laws_FnExactFadedApart.mono_l k
 unfold laws_FnExactFadedApart.f
 repeat' first
   | (with_reducible exact ih0 _ _ _ _ _ _ _ _ _)
   | (with_reducible exact ih1 _ _ _ _ _ _ _)
   | (with_reducible exact ih2 _ _ _)
   | (with_reducible exact impl_FadedApart.mono _ _ _ _)
   | (with_reducible exact laws_eqIntSS.mono _ _ _)
   | (with_reducible exact laws_eqShadeS.mono _ _ _)
   | (with_reducible exact laws_heldIntSS.mono _ _ _)
   | (with_reducible exact laws_markShadeS.mono _ _ _)
   | (with_reducible exact laws_szShadeS.mono _ _ _)
   | (with_reducible exact laws_toShadeS.mono _ _)
   | (with_reducible exact spec_FadedApart.mono _ _ _ _)
   | (with_reducible exact LeO.refl _)
   | (with_reducible exact LeO.none _)
   | (with_reducible refine LeO.ite ?_ ?_)
   | (with_reducible refine LeO.bind ?_ (fun _ => ?_))
   | exact ih0 _ _ _ _ _ _ _ _ _
   | exact ih1 _ _ _ _ _ _ _
   | exact ih2 _ _ _
   | exact impl_FadedApart.mono _ _ _ _
   | exact laws_eqIntSS.mono _ _ _
   | exact laws_eqShadeS.mono _ _ _
   | exact laws_heldIntSS.mono _ _ _
   | exact laws_markShadeS.mono _ _ _
   | exact laws_szShadeS.mono _ _ _
   | exact laws_toShadeS.mono _ _
   | exact spec_FadedApart.mono _ _ _ _
   | exact LeO.none _
   | refine LeO.ite ?_ ?_
   | refine LeO.bind ?_ (fun _ => ?_)
set_option maxHeartbeats 8000000 in
set_option maxRecDepth 100000 in
theorem laws_FnExactFadedApart.calls (k : Nat) (A0 : Option Addr) (c0 : Nat) (l0 : List (S38)) (a1 : Int) (a2 : Int) (r : Bool) (w : World) (hr0 : Kd.C k38 w A0 l0.length l0) (hc0 : l0.length ≤ c0) (h : laws_FnExactFadedApart.f k l0 a1 a2 = some r) :
  Calls Tryd.prog 3 #[.slice A0 l0.length c0, .int .i64 a1, .int .i64 a2] w fun e w' => e = .returned (.bool r) ∧ Below w.heap.size w w' := by
 have HR0 := zA hr0; have HC0 := zA hc0; clear hr0 hc0; have HB := zA (Below.refl w.heap.size w); have H : ((laws_szShadeS.f k l0 1048576).bind fun t339 => (if t339 < 0 then (some true) else ((laws_toShadeS.f k l0).bind fun t340 => ((spec_FadedApart.f k t340 a1 a2).bind fun bt343 => ((laws_toShadeS.f k l0).bind fun t347 => ((impl_FadedApart.f k t347 a1 a2).bind fun bt350 => ((laws_eqIntSS.f k bt350.1 bt343.1).bind fun t354 => (if t354 = true then (laws_FnExactFadedApart.j0 k l0 a1 a2 bt343.1 bt343.2 t347 bt350.1 bt350.2 (bt350.2 != bt343.2)) else (laws_FnExactFadedApart.j0 k l0 a1 a2 bt343.1 bt343.2 t347 bt350.1 bt350.2 true))))))))) = some r := h; clear h
 replace H := Option.bind_eq_some_iff.mp H
 obtain ⟨t339, A40, H⟩ := H
 replace H : (if t339 < 0 then (some true) else ((laws_toShadeS.f k l0).bind fun t340 => ((spec_FadedApart.f k t340 a1 a2).bind fun bt343 => ((laws_toShadeS.f k l0).bind fun t347 => ((impl_FadedApart.f k t347 a1 a2).bind fun bt350 => ((laws_eqIntSS.f k bt350.1 bt343.1).bind fun t354 => (if t354 = true then (laws_FnExactFadedApart.j0 k l0 a1 a2 bt343.1 bt343.2 t347 bt350.1 bt350.2 (bt350.2 != bt343.2)) else (laws_FnExactFadedApart.j0 k l0 a1 a2 bt343.1 bt343.2 t347 bt350.1 bt350.2 true)))))))) = some r := H
 have A4 := zA A40; clear A40
 by_cases c5 : t339 < 0
 ·rw [if_pos c5] at H
  have c5b0 : decide (t339 < 0) = true := decide_eq_true c5; clear c5
  obtain rfl := Option.some.inj H
  go_enter Tryd.func3, Tryd.ntmps3
  go_wp2_with (first | ((with_reducible refine gate_callee (f := 5) rfl ?_); refine goesL_ (some 20) rfl rfl Tryd.func5 (by kernel_rfl) rfl #[.slice A0 l0.length c0, .int .i64 1048576] rfl (zM) ?_; (with_reducible refine (laws_szShadeS.calls k _ _ l0 1048576 t339 _ ?side1 ?side2 A4.out).mono ?_); (case side1 => repeat (first | exact HR0.out | (with_reducible refine Kd.C_alloc ?_ _) | (with_reducible refine Kd.C_drewN ?_ _) | (with_reducible refine Kd.C_drew ?_))); (case side2 => exact HC0.out); rintro e w6 ⟨rfl, hb⟩; refine ⟨_, rfl, ?_⟩; have n0_ := zA (below_step (zW HB) hb); clear HB; have HB := n0_; clear n0_; (try clear hb); (try clear hb2); (try clear hk); (try clear hi)))
  go_ret
  exact ⟨by first | rfl | (simp [errW_none, errW_some] <;> rfl) | (simp [*, errW_none, errW_some] <;> rfl), by repeat (first | (with_reducible first | exact HB.out | apply below_alloc | apply pw_below_drewN | apply below_drew1) | exact HB.out)⟩
 ·rw [if_neg c5] at H
  have c5b0 : decide (t339 < 0) = false := decide_eq_false c5; clear c5
  replace H := Option.bind_eq_some_iff.mp H
  obtain ⟨t340, A70, H⟩ := H
  replace H : ((spec_FadedApart.f k t340 a1 a2).bind fun bt343 => ((laws_toShadeS.f k l0).bind fun t347 => ((impl_FadedApart.f k t347 a1 a2).bind fun bt350 => ((laws_eqIntSS.f k bt350.1 bt343.1).bind fun t354 => (if t354 = true then (laws_FnExactFadedApart.j0 k l0 a1 a2 bt343.1 bt343.2 t347 bt350.1 bt350.2 (bt350.2 != bt343.2)) else (laws_FnExactFadedApart.j0 k l0 a1 a2 bt343.1 bt343.2 t347 bt350.1 bt350.2 true)))))) = some r := H
  have A7 := zA A70; clear A70
  replace H := Option.bind_eq_some_iff.mp H
  obtain ⟨⟨t343, t344⟩, A80, H⟩ := H
  replace H : ((laws_toShadeS.f k l0).bind fun t347 => ((impl_FadedApart.f k t347 a1 a2).bind fun bt350 => ((laws_eqIntSS.f k bt350.1 t343).bind fun t354 => (if t354 = true then (laws_FnExactFadedApart.j0 k l0 a1 a2 t343 t344 t347 bt350.1 bt350.2 (bt350.2 != t344)) else (laws_FnExactFadedApart.j0 k l0 a1 a2 t343 t344 t347 bt350.1 bt350.2 true))))) = some r := H
  have A8 := zA A80; clear A80
  replace H := Option.bind_eq_some_iff.mp H
  obtain ⟨t347, A90, H⟩ := H
  replace H : ((impl_FadedApart.f k t347 a1 a2).bind fun bt350 => ((laws_eqIntSS.f k bt350.1 t343).bind fun t354 => (if t354 = true then (laws_FnExactFadedApart.j0 k l0 a1 a2 t343 t344 t347 bt350.1 bt350.2 (bt350.2 != t344)) else (laws_FnExactFadedApart.j0 k l0 a1 a2 t343 t344 t347 bt350.1 bt350.2 true)))) = some r := H
  have A9 := zA A90; clear A90
  replace H := Option.bind_eq_some_iff.mp H
  obtain ⟨⟨t350, t351⟩, A100, H⟩ := H
  replace H : ((laws_eqIntSS.f k t350 t343).bind fun t354 => (if t354 = true then (laws_FnExactFadedApart.j0 k l0 a1 a2 t343 t344 t347 t350 t351 (t351 != t344)) else (laws_FnExactFadedApart.j0 k l0 a1 a2 t343 t344 t347 t350 t351 true))) = some r := H
  have A10 := zA A100; clear A100; have HC11 := zA H; clear H
  go_enter Tryd.func3, Tryd.ntmps3
  go_upto_region 8 with (first | ((with_reducible refine gate_callee (f := 5) rfl ?_); refine goesL_ (some 20) rfl rfl Tryd.func5 (by kernel_rfl) rfl #[.slice A0 l0.length c0, .int .i64 1048576] rfl (zM) ?_; (with_reducible refine (laws_szShadeS.calls k _ _ l0 1048576 t339 _ ?side1 ?side2 A4.out).mono ?_); (case side1 => repeat (first | exact HR0.out | (with_reducible refine Kd.C_alloc ?_ _) | (with_reducible refine Kd.C_drewN ?_ _) | (with_reducible refine Kd.C_drew ?_))); (case side2 => exact HC0.out); rintro e w12 ⟨rfl, hb⟩; refine ⟨_, rfl, ?_⟩; have n0_ := zA (below_step (zW HB) hb); clear HB; have HB := n0_; clear n0_; (try clear hb); (try clear hb2); (try clear hk); (try clear hi)) | ((with_reducible refine gate_callee (f := 7) rfl ?_); refine goesL_ (some 25) rfl rfl Tryd.func7 (by kernel_rfl) rfl #[.slice A0 l0.length c0] rfl (zM) ?_; (with_reducible refine (laws_toShadeS.calls k _ _ l0 t340 _ ?side1 ?side2 A7.out).mono ?_); (case side1 => repeat (first | exact (Kd.C_below HR0.out HB.out) | (with_reducible refine Kd.C_alloc ?_ _) | (with_reducible refine Kd.C_drewN ?_ _) | (with_reducible refine Kd.C_drew ?_))); (case side2 => exact HC0.out); rintro e w13 ⟨v341, rfl, ho0, hb⟩; refine ⟨_, rfl, ?_⟩; have n0_ := zA (Kd.R_lower ho0 (below_size (zW HB))); have n1_ := zA (below_step (zW HB) hb); clear HB; have HO342 := n0_; have HB := n1_; clear n0_ n1_; (try clear hb); (try clear hb2); (try clear hk); (try clear hi); (try clear ho0); obtain ⟨Ao14, co14, eo14⟩ := Kd.R_slice HO342.out; subst eo14) | ((with_reducible refine gate_callee (f := 6) rfl ?_); refine goesL_ (some 28) rfl rfl Tryd.func6 (by kernel_rfl) rfl #[.slice Ao14 t340.length co14, .int .i64 a1, .int .i64 a2] rfl (zM) ?_; (with_reducible refine (spec_FadedApart.calls k _ _ t340 a1 a2 t343 t344 _ ?side1 ?side2 A8.out).mono ?_); (case side1 => repeat (first | exact (Kd.R_reads' HO342.out).2.2 | (with_reducible refine Kd.C_alloc ?_ _) | (with_reducible refine Kd.C_drewN ?_ _) | (with_reducible refine Kd.C_drew ?_))); (case side2 => exact (Kd.R_reads' HO342.out).2.1); rintro e w15 ⟨v345, rfl, ho0, hb⟩; refine ⟨_, rfl, ?_⟩; have n0_ := zA (Kd.R_below (zR HO342) hb); have n1_ := zA (Kd.S_lower ho0 (below_size (zW HB))); have n2_ := zA (below_step (zW HB) hb); clear HO342; clear HB; have HO342 := n0_; have HO346 := n1_; have HB := n2_; clear n0_ n1_ n2_; (try clear hb); (try clear hb2); (try clear hk); (try clear hi); (try clear ho0)) | ((with_reducible refine gate_callee (f := 7) rfl ?_); refine goesL_ (some 32) rfl rfl Tryd.func7 (by kernel_rfl) rfl #[.slice A0 l0.length c0] rfl (zM) ?_; (with_reducible refine (laws_toShadeS.calls k _ _ l0 t347 _ ?side1 ?side2 A9.out).mono ?_); (case side1 => repeat (first | exact (Kd.C_below HR0.out HB.out) | (with_reducible refine Kd.C_alloc ?_ _) | (with_reducible refine Kd.C_drewN ?_ _) | (with_reducible refine Kd.C_drew ?_))); (case side2 => exact HC0.out); rintro e w16 ⟨v348, rfl, ho0, hb⟩; refine ⟨_, rfl, ?_⟩; have n0_ := zA (Kd.R_elder' (zR HO342) (Kd.R_base ho0) hb); have n1_ := zA (Kd.S_below (by (with_reducible repeat (first | apply Kd.S_alloc | apply Kd.S_drewN | apply Kd.S_drew)); exact HO346.out) hb); have n2_ := zA (Kd.R_lower (Kd.R_new' ho0 (Kd.R_lt (zR HO342))) (below_size (zW HB))); have n3_ := zA (below_step (zW HB) hb); clear HO342; clear HO346; clear HB; have HO342 := n0_; have HO346 := n1_; have HO349 := n2_; have HB := n3_; clear n0_ n1_ n2_ n3_; (try clear hb); (try clear hb2); (try clear hk); (try clear hi); (try clear ho0); obtain ⟨Ao17, co17, eo17⟩ := Kd.R_slice HO349.out; subst eo17) | ((with_reducible refine gate_callee (f := 8) rfl ?_); refine goesL_ (some 37) rfl rfl Tryd.func8 (by kernel_rfl) rfl #[.slice Ao17 t347.length co17, .int .i64 a1, .int .i64 a2] rfl (zM) ?_; (with_reducible refine (impl_FadedApart.calls k _ _ t347 a1 a2 t350 t351 _ ?side1 ?side2 A10.out).mono ?_); (case side1 => repeat (first | exact (Kd.R_reads' HO349.out).2.2 | (with_reducible refine Kd.C_alloc ?_ _) | (with_reducible refine Kd.C_drewN ?_ _) | (with_reducible refine Kd.C_drew ?_))); (case side2 => exact (Kd.R_reads' HO349.out).2.1); rintro e w18 ⟨v352, rfl, ho0, hb⟩; refine ⟨_, rfl, ?_⟩; have n0_ := zA (Kd.R_below (zR HO342) hb); obtain ⟨NN, hA6_, hA9_⟩ := apart_pair (by (with_reducible repeat (first | apply Kd.S_alloc | apply Kd.S_drewN | apply Kd.S_drew)); exact HO346.out) ho0 hb (below_size (zW HB)); have n1_ := zA hA6_; have n2_ := zA (Kd.R_below (zR HO349) hb); have n3_ := zA hA9_; have n4_ := zA (below_step (zW HB) hb); clear HO342; clear HO346; clear HO349; clear HB; have HO342 := n0_; have HO346 := n1_; have HO349 := n2_; have HO353 := n3_; have HB := n4_; clear n0_ n1_ n2_ n3_ n4_; (try clear hb); (try clear hb2); (try clear hk); (try clear hi); (try clear hA6_); (try clear hA9_); (try clear ho0)))
  (try simp only [Act.put, List.setIfInBounds_toArray, List.set_cons_zero, List.set_cons_succ])
  go_cut [48] (fun v48 wc => ∃ (kq : Nat) (x48_10 : Bool), v48 = .bool x48_10 ∧ Aside0 (laws_FnExactFadedApart.j0 kq l0 a1 a2 t343 t344 t347 t350 t351 x48_10 = some r) ∧ Aside0 (kq ≤ k) ∧ Aside0 (Kd.S (Kd.slice 3 (Kd.int .i64)) 45 wc w.heap.size (fun k_ => k_ < NN) v345 t343) ∧ Aside0 (Kd.R k42 42 wc w.heap.size (fun _ => True) (.slice Ao17 t347.length co17) t347) ∧ Aside0 (Kd.S (Kd.slice 3 (Kd.int .i64)) 45 wc w.heap.size (fun k_ => NN ≤ k_) v352 t350) ∧ Aside0 (Below w.heap.size w wc))
  case first =>
   have H := HC11.out; clear HC11
   replace H := Option.bind_eq_some_iff.mp H
   obtain ⟨t354, A190, H⟩ := H
   replace H : (if t354 = true then (laws_FnExactFadedApart.j0 k l0 a1 a2 t343 t344 t347 t350 t351 (t351 != t344)) else (laws_FnExactFadedApart.j0 k l0 a1 a2 t343 t344 t347 t350 t351 true)) = some r := H
   have A19 := zA A190; clear A190
   by_cases c20 : t354 = true
   ·subst c20
    have H1 : (laws_FnExactFadedApart.j0 k l0 a1 a2 t343 t344 t347 t350 t351 (t351 != t344)) = some r := by rw [if_pos rfl] at H; exact H
    clear H; have H := H1; clear H1; have H' := zA H; clear H
    obtain ⟨Ao21, co21, eo21⟩ := Kd.S_slice HO353.out
    subst eo21
    obtain ⟨Ao22, co22, eo22⟩ := Kd.S_slice HO346.out
    subst eo22
    go_wp2_with (first | ((with_reducible refine gate_callee (f := 9) rfl ?_); refine goesL_ (some 42) rfl rfl Tryd.func9 (by kernel_rfl) rfl #[.slice Ao21 t350.length co21, .slice Ao22 t343.length co22] rfl (zM) ?_; (with_reducible refine (laws_eqIntSS.calls k _ _ t350 _ _ t343 true _ ?side1 ?side2 ?side3 ?side4 A19.out).mono ?_); (case side1 => repeat (first | exact (Kd.S_reads' HO353.out).2.2 | (with_reducible refine Kd.C_alloc ?_ _) | (with_reducible refine Kd.C_drewN ?_ _) | (with_reducible refine Kd.C_drew ?_))); (case side2 => exact (Kd.S_reads' HO353.out).2.1); (case side3 => repeat (first | exact (Kd.S_reads' HO346.out).2.2 | (with_reducible refine Kd.C_alloc ?_ _) | (with_reducible refine Kd.C_drewN ?_ _) | (with_reducible refine Kd.C_drew ?_))); (case side4 => exact (Kd.S_reads' HO346.out).2.1); rintro e w' ⟨rfl, ⟨nd, rfl⟩⟩; refine ⟨_, rfl, ?_⟩))
    go_meet
    case rel => exact ⟨_, ((t351 != t344)), (by first | rfl | (simp; done) | (simp [*]; done)), H', ⟨by first | omega | exact Nat.le_refl _⟩, ⟨by (with_reducible repeat (first | apply Kd.S_alloc | apply Kd.S_drewN | apply Kd.S_drew)); exact HO346.out⟩, ⟨by (with_reducible repeat (first | apply Kd.R_alloc | apply Kd.R_drewN | apply Kd.R_drew)); exact Kd.R_mono HO349.out (fun _ hk => trivial)⟩, ⟨by (with_reducible repeat (first | apply Kd.S_alloc | apply Kd.S_drewN | apply Kd.S_drew)); exact HO353.out⟩, ⟨by repeat (first | (with_reducible first | exact HB.out | apply below_alloc | apply pw_below_drewN | apply below_drew1) | exact HB.out)⟩⟩
   ·replace c20 := Bool.eq_false_iff.mpr c20
    subst c20
    have H1 : (laws_FnExactFadedApart.j0 k l0 a1 a2 t343 t344 t347 t350 t351 true) = some r := by rw [if_neg (show ¬ (false = true) by decide)] at H; exact H
    clear H; have H := H1; clear H1; have H' := zA H; clear H
    obtain ⟨Ao23, co23, eo23⟩ := Kd.S_slice HO353.out
    subst eo23
    obtain ⟨Ao24, co24, eo24⟩ := Kd.S_slice HO346.out
    subst eo24
    go_wp2_with (first | ((with_reducible refine gate_callee (f := 9) rfl ?_); refine goesL_ (some 42) rfl rfl Tryd.func9 (by kernel_rfl) rfl #[.slice Ao23 t350.length co23, .slice Ao24 t343.length co24] rfl (zM) ?_; (with_reducible refine (laws_eqIntSS.calls k _ _ t350 _ _ t343 false _ ?side1 ?side2 ?side3 ?side4 A19.out).mono ?_); (case side1 => repeat (first | exact (Kd.S_reads' HO353.out).2.2 | (with_reducible refine Kd.C_alloc ?_ _) | (with_reducible refine Kd.C_drewN ?_ _) | (with_reducible refine Kd.C_drew ?_))); (case side2 => exact (Kd.S_reads' HO353.out).2.1); (case side3 => repeat (first | exact (Kd.S_reads' HO346.out).2.2 | (with_reducible refine Kd.C_alloc ?_ _) | (with_reducible refine Kd.C_drewN ?_ _) | (with_reducible refine Kd.C_drew ?_))); (case side4 => exact (Kd.S_reads' HO346.out).2.1); rintro e w' ⟨rfl, ⟨nd, rfl⟩⟩; refine ⟨_, rfl, ?_⟩))
    go_meet
    case rel => exact ⟨_, (true), (by first | rfl | (simp; done) | (simp [*]; done)), H', ⟨by first | omega | exact Nat.le_refl _⟩, ⟨by (with_reducible repeat (first | apply Kd.S_alloc | apply Kd.S_drewN | apply Kd.S_drew)); exact HO346.out⟩, ⟨by (with_reducible repeat (first | apply Kd.R_alloc | apply Kd.R_drewN | apply Kd.R_drew)); exact Kd.R_mono HO349.out (fun _ hk => trivial)⟩, ⟨by (with_reducible repeat (first | apply Kd.S_alloc | apply Kd.S_drewN | apply Kd.S_drew)); exact HO353.out⟩, ⟨by repeat (first | (with_reducible first | exact HB.out | apply below_alloc | apply pw_below_drewN | apply below_drew1) | exact HB.out)⟩⟩
  case rest =>
   clear HC11
   try clear c2; try clear p2; try clear c3; try clear c5; try clear c5b0; try clear c6; try clear c7; try clear c8; try clear c9; try clear c20
   obtain ⟨kq, x48_10, rfl, HA, HJ10, HO_8, HO_10, HO_11, HB⟩ := hcut
   cases kq with
   | zero => exact absurd HA.out (by simp [laws_FnExactFadedApart.j0])
   | succ kj10 =>
    have H := HA.out; clear HA
    simp only [laws_FnExactFadedApart.j0] at H
    by_cases c25 : x48_10 = true
    ·subst c25
     have H1 : (some false) = some r := by rw [if_pos rfl] at H; exact H
     clear H; have H := H1; clear H1
     obtain rfl := Option.some.inj H
     go_wp2
     go_ret
     exact ⟨by first | rfl | (simp [errW_none, errW_some] <;> rfl) | (simp [*, errW_none, errW_some] <;> rfl), by repeat (first | (with_reducible first | exact HB.out | apply below_alloc | apply pw_below_drewN | apply below_drew1) | exact HB.out)⟩
    ·replace c25 := Bool.eq_false_iff.mpr c25
     subst c25
     have H1 : ((laws_toShadeS.f kj10 l0).bind fun t355 => ((laws_eqShadeS.f kj10 t347 t355).bind fun t358 => (if t358 = true then ((laws_markShadeS.f kj10 t347 1).bind fun bt359 => (if bt359.1 < 0 then (laws_FnExactFadedApart.j1 kj10 l0 a1 a2 t343 t344 t350 true) else ((laws_eqIntSS.f kj10 t350 t343).bind fun t361 => (if t361 = true then (laws_FnExactFadedApart.j1 kj10 l0 a1 a2 t343 t344 t350 (t351 != t344)) else (laws_FnExactFadedApart.j1 kj10 l0 a1 a2 t343 t344 t350 true))))) else (some false)))) = some r := by rw [if_neg (show ¬ (false = true) by decide)] at H; exact H
     clear H; have H := H1; clear H1
     replace H := Option.bind_eq_some_iff.mp H
     obtain ⟨t355, A260, H⟩ := H
     replace H : ((laws_eqShadeS.f kj10 t347 t355).bind fun t358 => (if t358 = true then ((laws_markShadeS.f kj10 t347 1).bind fun bt359 => (if bt359.1 < 0 then (laws_FnExactFadedApart.j1 kj10 l0 a1 a2 t343 t344 t350 true) else ((laws_eqIntSS.f kj10 t350 t343).bind fun t361 => (if t361 = true then (laws_FnExactFadedApart.j1 kj10 l0 a1 a2 t343 t344 t350 (t351 != t344)) else (laws_FnExactFadedApart.j1 kj10 l0 a1 a2 t343 t344 t350 true))))) else (some false))) = some r := H
     have A26 := zA A260; clear A260
     replace H := Option.bind_eq_some_iff.mp H
     obtain ⟨t358, A270, H⟩ := H
     replace H : (if t358 = true then ((laws_markShadeS.f kj10 t347 1).bind fun bt359 => (if bt359.1 < 0 then (laws_FnExactFadedApart.j1 kj10 l0 a1 a2 t343 t344 t350 true) else ((laws_eqIntSS.f kj10 t350 t343).bind fun t361 => (if t361 = true then (laws_FnExactFadedApart.j1 kj10 l0 a1 a2 t343 t344 t350 (t351 != t344)) else (laws_FnExactFadedApart.j1 kj10 l0 a1 a2 t343 t344 t350 true))))) else (some false)) = some r := H
     have A27 := zA A270; clear A270
     by_cases c28 : t358 = true
     ·subst c28
      have H1 : ((laws_markShadeS.f kj10 t347 1).bind fun bt359 => (if bt359.1 < 0 then (laws_FnExactFadedApart.j1 kj10 l0 a1 a2 t343 t344 t350 true) else ((laws_eqIntSS.f kj10 t350 t343).bind fun t361 => (if t361 = true then (laws_FnExactFadedApart.j1 kj10 l0 a1 a2 t343 t344 t350 (t351 != t344)) else (laws_FnExactFadedApart.j1 kj10 l0 a1 a2 t343 t344 t350 true))))) = some r := by rw [if_pos rfl] at H; exact H
      clear H; have H := H1; clear H1
      replace H := Option.bind_eq_some_iff.mp H
      obtain ⟨⟨t359, t360⟩, A290, H⟩ := H
      replace H : (if t359 < 0 then (laws_FnExactFadedApart.j1 kj10 l0 a1 a2 t343 t344 t350 true) else ((laws_eqIntSS.f kj10 t350 t343).bind fun t361 => (if t361 = true then (laws_FnExactFadedApart.j1 kj10 l0 a1 a2 t343 t344 t350 (t351 != t344)) else (laws_FnExactFadedApart.j1 kj10 l0 a1 a2 t343 t344 t350 true)))) = some r := H
      have A29 := zA A290; clear A290; have HC30 := zA H; clear H
      go_upto_region 14 with (first | ((with_reducible refine gate_callee (f := 7) rfl ?_); refine goesL_ (some 51) rfl rfl Tryd.func7 (by kernel_rfl) rfl #[.slice A0 l0.length c0] rfl (zM) ?_; (with_reducible refine (laws_toShadeS.calls kj10 _ _ l0 t355 _ ?side1 ?side2 A26.out).mono ?_); (case side1 => repeat (first | exact (Kd.C_below HR0.out HB.out) | (with_reducible refine Kd.C_alloc ?_ _) | (with_reducible refine Kd.C_drewN ?_ _) | (with_reducible refine Kd.C_drew ?_))); (case side2 => exact HC0.out); rintro e w31 ⟨v356, rfl, ho0, hb⟩; refine ⟨_, rfl, ?_⟩; have n0_ := zA (Kd.S_below (by (with_reducible repeat (first | apply Kd.S_alloc | apply Kd.S_drewN | apply Kd.S_drew)); exact HO_8.out) hb); have n1_ := zA (Kd.R_elder' (zR HO_10) (Kd.R_base ho0) hb); have n2_ := zA (Kd.S_below (by (with_reducible repeat (first | apply Kd.S_alloc | apply Kd.S_drewN | apply Kd.S_drew)); exact HO_11.out) hb); have n3_ := zA (Kd.R_lower (Kd.R_new' ho0 (Kd.R_lt (zR HO_10))) (below_size (zW HB))); have n4_ := zA (below_step (zW HB) hb); clear HO_8; clear HO_10; clear HO_11; clear HB; have HO_8 := n0_; have HO_10 := n1_; have HO_11 := n2_; have HO357 := n3_; have HB := n4_; clear n0_ n1_ n2_ n3_ n4_; (try clear hb); (try clear hb2); (try clear hk); (try clear hi); (try clear ho0); obtain ⟨Ao32, co32, eo32⟩ := Kd.R_slice HO357.out; subst eo32) | ((with_reducible refine gate_callee (f := 10) rfl ?_); refine goesL_ (some 52) rfl rfl Tryd.func10 (by kernel_rfl) rfl #[.slice Ao17 t347.length co17, .slice Ao32 t355.length co32] rfl (zM) ?_; (with_reducible refine (laws_eqShadeS.calls kj10 _ _ t347 _ _ t355 true _ ?side1 ?side2 ?side3 ?side4 A27.out).mono ?_); (case side1 => repeat (first | exact (Kd.R_reads' HO_10.out).2.2 | (with_reducible refine Kd.C_alloc ?_ _) | (with_reducible refine Kd.C_drewN ?_ _) | (with_reducible refine Kd.C_drew ?_))); (case side2 => exact (Kd.R_reads' HO_10.out).2.1); (case side3 => repeat (first | exact (Kd.R_reads' HO357.out).2.2 | (with_reducible refine Kd.C_alloc ?_ _) | (with_reducible refine Kd.C_drewN ?_ _) | (with_reducible refine Kd.C_drew ?_))); (case side4 => exact (Kd.R_reads' HO357.out).2.1); rintro e w33 ⟨rfl, hb⟩; refine ⟨_, rfl, ?_⟩; have n0_ := zA (Kd.S_below (by (with_reducible repeat (first | apply Kd.S_alloc | apply Kd.S_drewN | apply Kd.S_drew)); exact HO_8.out) hb); have n1_ := zA (Kd.R_below (zR HO_10) hb); have n2_ := zA (Kd.S_below (by (with_reducible repeat (first | apply Kd.S_alloc | apply Kd.S_drewN | apply Kd.S_drew)); exact HO_11.out) hb); have n3_ := zA (Kd.R_below (zR HO357) hb); have n4_ := zA (below_step (zW HB) hb); clear HO_8; clear HO_10; clear HO_11; clear HO357; clear HB; have HO_8 := n0_; have HO_10 := n1_; have HO_11 := n2_; have HO357 := n3_; have HB := n4_; clear n0_ n1_ n2_ n3_ n4_; (try clear hb); (try clear hb2); (try clear hk); (try clear hi)) | ((with_reducible refine gate_callee (f := 11) rfl ?_); refine goesL_ (some 56) rfl rfl Tryd.func11 (by kernel_rfl) rfl #[.slice Ao17 t347.length co17, .int .i64 1] rfl (zM) ?_; (with_reducible refine (laws_markShadeS.calls kj10 (fun k_ => some k_ = (.slice Ao17 t347.length co17 : Value).ownBlock) (.slice Ao17 t347.length co17) t347 1 t359 t360 w _ ?side1 ?side2 A29.out).mono ?_); (case side1 => repeat (first | (with_reducible first | exact HB.out | apply below_alloc | apply pw_below_drewN | apply below_drew1) | exact HB.out)); (case side2 => exact Kd.R_tight rfl HO_10.out); rintro e w34 ⟨rfl, hy0, hb, hkp⟩; refine ⟨_, rfl, ?_⟩; have n0_ := zA (Kd.S_mono (ok' := fun k_ => k_ < NN) (S_keptB2 ((Kd.S_apart' HO_8.out (Kd.R_typed HO_10.out) (by decide))) hkp (fun k_ hk_ hs_ => (hk_.2) hs_)) (fun k_ hk_ => hk_.1.1)); have n1_ := zA (Kd.R_reok rfl hy0 (fun k_ e_ => HO_10.out.1 k_ e_)); have n2_ := zA (Kd.S_mono (ok' := fun k_ => NN ≤ k_) (S_keptB2 ((Kd.S_apart' HO_11.out (Kd.R_typed HO_10.out) (by decide))) hkp (fun k_ hk_ hs_ => (hk_.2) hs_)) (fun k_ hk_ => hk_.1.1)); have n3_ := zA (Kd.R_mono (ok' := fun k_ => some k_ ≠ (.slice Ao17 t347.length co17 : Value).ownBlock) (Kd.R_keptB (HO357.out) hkp (fun k_ hk_ hs_ => (hk_.2) hs_)) (fun k_ hk_ => hk_.1.2)); have n4_ := zA (hb); clear HO_8; clear HO_10; clear HO_11; clear HO357; clear HB; have HO_8 := n0_; have HO_10 := n1_; have HO_11 := n2_; have HO357 := n3_; have HB := n4_; clear n0_ n1_ n2_ n3_ n4_; (try clear hb); (try clear hkp); (try clear hy0)))
      (try simp only [Act.put, List.setIfInBounds_toArray, List.set_cons_zero, List.set_cons_succ])
      go_cut [69] (fun v69 wc => ∃ (kq : Nat) (x69_29 : Bool), v69 = .bool x69_29 ∧ Aside0 (laws_FnExactFadedApart.j1 kq l0 a1 a2 t343 t344 t350 x69_29 = some r) ∧ Aside0 (kq ≤ kj10) ∧ Aside0 (Kd.S (Kd.slice 3 (Kd.int .i64)) 45 wc w.heap.size (fun k_ => k_ < NN) v345 t343) ∧ Aside0 (Kd.S (Kd.slice 3 (Kd.int .i64)) 45 wc w.heap.size (fun k_ => NN ≤ k_) v352 t350) ∧ Aside0 (Below w.heap.size w wc))
      case first =>
       have H := HC30.out; clear HC30
       by_cases c35 : t359 < 0
       ·rw [if_pos c35] at H
        have c35b0 : decide (t359 < 0) = true := decide_eq_true c35; clear c35
        (first | rw [c35b0] | (simp only [i64_w, i32_w]; rw [c35b0]) | skip)
        have H' := zA H; clear H
        go_wp2
        go_meet
        case rel => exact ⟨_, (true), (by first | rfl | (simp; done) | (simp [*]; done)), H', ⟨by have := HJ10.out; first | omega | exact Nat.le_refl _⟩, ⟨by (with_reducible repeat (first | apply Kd.S_alloc | apply Kd.S_drewN | apply Kd.S_drew)); exact HO_8.out⟩, ⟨by (with_reducible repeat (first | apply Kd.S_alloc | apply Kd.S_drewN | apply Kd.S_drew)); exact HO_11.out⟩, ⟨by repeat (first | (with_reducible first | exact HB.out | apply below_alloc | apply pw_below_drewN | apply below_drew1) | exact HB.out)⟩⟩
       ·rw [if_neg c35] at H
        have c35b0 : decide (t359 < 0) = false := decide_eq_false c35; clear c35
        (first | rw [c35b0] | (simp only [i64_w, i32_w]; rw [c35b0]) | skip)
        replace H := Option.bind_eq_some_iff.mp H
        obtain ⟨t361, A360, H⟩ := H
        replace H : (if t361 = true then (laws_FnExactFadedApart.j1 kj10 l0 a1 a2 t343 t344 t350 (t351 != t344)) else (laws_FnExactFadedApart.j1 kj10 l0 a1 a2 t343 t344 t350 true)) = some r := H
        have A36 := zA A360; clear A360
        by_cases c37 : t361 = true
        ·subst c37
         have H1 : (laws_FnExactFadedApart.j1 kj10 l0 a1 a2 t343 t344 t350 (t351 != t344)) = some r := by rw [if_pos rfl] at H; exact H
         clear H; have H := H1; clear H1; have H' := zA H; clear H
         obtain ⟨Ao38, co38, eo38⟩ := Kd.S_slice HO_11.out
         subst eo38
         obtain ⟨Ao39, co39, eo39⟩ := Kd.S_slice HO_8.out
         subst eo39
         go_wp2_with (first | (go_at_call 9; (with_reducible refine (laws_eqIntSS.calls kj10 _ _ t350 _ _ t343 true _ ?side1 ?side2 ?side3 ?side4 A36.out).mono ?_); (case side1 => repeat (first | exact (Kd.S_reads' HO_11.out).2.2 | (with_reducible refine Kd.C_alloc ?_ _) | (with_reducible refine Kd.C_drewN ?_ _) | (with_reducible refine Kd.C_drew ?_))); (case side2 => exact (Kd.S_reads' HO_11.out).2.1); (case side3 => repeat (first | exact (Kd.S_reads' HO_8.out).2.2 | (with_reducible refine Kd.C_alloc ?_ _) | (with_reducible refine Kd.C_drewN ?_ _) | (with_reducible refine Kd.C_drew ?_))); (case side4 => exact (Kd.S_reads' HO_8.out).2.1); rintro e w' ⟨rfl, ⟨nd, rfl⟩⟩))
         go_meet
         case rel => exact ⟨_, ((t351 != t344)), (by first | rfl | (simp; done) | (simp [*]; done)), H', ⟨by have := HJ10.out; first | omega | exact Nat.le_refl _⟩, ⟨by (with_reducible repeat (first | apply Kd.S_alloc | apply Kd.S_drewN | apply Kd.S_drew)); exact HO_8.out⟩, ⟨by (with_reducible repeat (first | apply Kd.S_alloc | apply Kd.S_drewN | apply Kd.S_drew)); exact HO_11.out⟩, ⟨by repeat (first | (with_reducible first | exact HB.out | apply below_alloc | apply pw_below_drewN | apply below_drew1) | exact HB.out)⟩⟩
        ·replace c37 := Bool.eq_false_iff.mpr c37
         subst c37
         have H1 : (laws_FnExactFadedApart.j1 kj10 l0 a1 a2 t343 t344 t350 true) = some r := by rw [if_neg (show ¬ (false = true) by decide)] at H; exact H
         clear H; have H := H1; clear H1; have H' := zA H; clear H
         obtain ⟨Ao40, co40, eo40⟩ := Kd.S_slice HO_11.out
         subst eo40
         obtain ⟨Ao41, co41, eo41⟩ := Kd.S_slice HO_8.out
         subst eo41
         go_wp2_with (first | (go_at_call 9; (with_reducible refine (laws_eqIntSS.calls kj10 _ _ t350 _ _ t343 false _ ?side1 ?side2 ?side3 ?side4 A36.out).mono ?_); (case side1 => repeat (first | exact (Kd.S_reads' HO_11.out).2.2 | (with_reducible refine Kd.C_alloc ?_ _) | (with_reducible refine Kd.C_drewN ?_ _) | (with_reducible refine Kd.C_drew ?_))); (case side2 => exact (Kd.S_reads' HO_11.out).2.1); (case side3 => repeat (first | exact (Kd.S_reads' HO_8.out).2.2 | (with_reducible refine Kd.C_alloc ?_ _) | (with_reducible refine Kd.C_drewN ?_ _) | (with_reducible refine Kd.C_drew ?_))); (case side4 => exact (Kd.S_reads' HO_8.out).2.1); rintro e w' ⟨rfl, ⟨nd, rfl⟩⟩))
         go_meet
         case rel => exact ⟨_, (true), (by first | rfl | (simp; done) | (simp [*]; done)), H', ⟨by have := HJ10.out; first | omega | exact Nat.le_refl _⟩, ⟨by (with_reducible repeat (first | apply Kd.S_alloc | apply Kd.S_drewN | apply Kd.S_drew)); exact HO_8.out⟩, ⟨by (with_reducible repeat (first | apply Kd.S_alloc | apply Kd.S_drewN | apply Kd.S_drew)); exact HO_11.out⟩, ⟨by repeat (first | (with_reducible first | exact HB.out | apply below_alloc | apply pw_below_drewN | apply below_drew1) | exact HB.out)⟩⟩
      case rest =>
       clear HC30
       try clear c1; try clear c2; try clear p2; try clear c3; try clear c5; try clear c5b0; try clear c6; try clear c7; try clear c8; try clear c9; try clear c10; try clear c11; try clear c20; try clear c25; try clear c28; try clear c35; try clear c35b0; try clear c37; try clear p2
       obtain ⟨kq, x69_29, rfl, HA, HJ29, HO_8, HO_11, HB⟩ := hcut
       cases kq with
       | zero => exact absurd HA.out (by simp [laws_FnExactFadedApart.j1])
       | succ kj29 =>
        have H := HA.out; clear HA
        simp only [laws_FnExactFadedApart.j1] at H
        by_cases c42 : x69_29 = true
        ·subst c42
         have H1 : (some false) = some r := by rw [if_pos rfl] at H; exact H
         clear H; have H := H1; clear H1
         obtain rfl := Option.some.inj H
         go_wp2
         go_ret
         exact ⟨by first | rfl | (simp [errW_none, errW_some] <;> rfl) | (simp [*, errW_none, errW_some] <;> rfl), by repeat (first | (with_reducible first | exact HB.out | apply below_alloc | apply pw_below_drewN | apply below_drew1) | exact HB.out)⟩
        ·replace c42 := Bool.eq_false_iff.mpr c42
         subst c42
         have H1 : ((laws_markIntSS.f t350 1).bind fun t362 => ((gosem_cut.f t350 1).bind fun t363 => ((laws_heldIntSS.f kj29 t363 1).bind fun t366 => (if t366 < 0 then (some false) else (if t366 = t362 then ((laws_toShadeS.f kj29 l0).bind fun t367 => ((impl_FadedApart.f kj29 t367 a1 a2).bind fun bt370 => ((laws_eqIntSS.f kj29 bt370.1 t343).bind fun t374 => (if t374 = true then (laws_FnExactFadedApart.j2 kj29 t363 t362 (bt370.2 != t344)) else (laws_FnExactFadedApart.j2 kj29 t363 t362 true))))) else (some false)))))) = some r := by rw [if_neg (show ¬ (false = true) by decide)] at H; exact H
         clear H; have H := H1; clear H1
         replace H := Option.bind_eq_some_iff.mp H
         obtain ⟨t362, A430, H⟩ := H
         replace H : ((gosem_cut.f t350 1).bind fun t363 => ((laws_heldIntSS.f kj29 t363 1).bind fun t366 => (if t366 < 0 then (some false) else (if t366 = t362 then ((laws_toShadeS.f kj29 l0).bind fun t367 => ((impl_FadedApart.f kj29 t367 a1 a2).bind fun bt370 => ((laws_eqIntSS.f kj29 bt370.1 t343).bind fun t374 => (if t374 = true then (laws_FnExactFadedApart.j2 kj29 t363 t362 (bt370.2 != t344)) else (laws_FnExactFadedApart.j2 kj29 t363 t362 true))))) else (some false))))) = some r := H
         have A43 := zA A430; clear A430
         replace H := Option.bind_eq_some_iff.mp H
         obtain ⟨t363, A440, H⟩ := H
         replace H : ((laws_heldIntSS.f kj29 t363 1).bind fun t366 => (if t366 < 0 then (some false) else (if t366 = t362 then ((laws_toShadeS.f kj29 l0).bind fun t367 => ((impl_FadedApart.f kj29 t367 a1 a2).bind fun bt370 => ((laws_eqIntSS.f kj29 bt370.1 t343).bind fun t374 => (if t374 = true then (laws_FnExactFadedApart.j2 kj29 t363 t362 (bt370.2 != t344)) else (laws_FnExactFadedApart.j2 kj29 t363 t362 true))))) else (some false)))) = some r := H
         have A44 := zA A440; clear A440
         replace H := Option.bind_eq_some_iff.mp H
         obtain ⟨t366, A450, H⟩ := H
         replace H : (if t366 < 0 then (some false) else (if t366 = t362 then ((laws_toShadeS.f kj29 l0).bind fun t367 => ((impl_FadedApart.f kj29 t367 a1 a2).bind fun bt370 => ((laws_eqIntSS.f kj29 bt370.1 t343).bind fun t374 => (if t374 = true then (laws_FnExactFadedApart.j2 kj29 t363 t362 (bt370.2 != t344)) else (laws_FnExactFadedApart.j2 kj29 t363 t362 true))))) else (some false))) = some r := H
         have A45 := zA A450; clear A450
         by_cases c46 : t366 < 0
         ·rw [if_pos c46] at H
          have c46b0 : decide (t366 < 0) = true := decide_eq_true c46; clear c46
          obtain rfl := Option.some.inj H
          obtain ⟨Ao47, co47, eo47⟩ := Kd.S_slice HO_11.out
          subst eo47
          go_wp2_with (first | ((with_reducible refine gate_callee (f := 12) rfl ?_); refine goesL_ (some 72) rfl rfl Tryd.func12 (by kernel_rfl) rfl #[.slice Ao47 t350.length co47, .int .i64 1] rfl (zM) ?_; (with_reducible refine (markSS_own (fun k_ => NN ≤ k_) (.slice Ao47 t350.length co47) t350 1 t362 t363 w _ ?side1 ?side2 A43.out A44.out).mono ?_); (case side1 => exact (zW HB)); (case side2 => exact (by (with_reducible repeat (first | apply Kd.S_alloc | apply Kd.S_drewN | apply Kd.S_drew)); exact HO_11.out)); rintro e w48 ⟨rfl, ho0, hb, hk0⟩; refine ⟨_, rfl, ?_⟩; have hl_ := cut_len A44.out; have n0_ := zA (Kd.S_kept (by (with_reducible repeat (first | apply Kd.S_alloc | apply Kd.S_drewN | apply Kd.S_drew)); exact HO_8.out) hk0 (fun k_ hk_ hs_ => absurd hs_ (Nat.not_le_of_lt hk_))); rw [← hl_] at ho0; rw [← hl_]; clear hl_; obtain ⟨Ao49, hA_⟩ : ∃ A_, A_ = Ao47 := ⟨_, rfl⟩; obtain ⟨co49, hc_⟩ : ∃ c_, c_ = co47 := ⟨_, rfl⟩; subst hA_; subst hc_; have n1_ := zA ho0; have n3_ := zA hb; clear HO_8; clear HO_11; clear HB; have HO_8 := n0_; have HO_11 := n1_; have HO365 := n1_; have HB := n3_; clear n0_ n1_ n3_; clear hb ho0 hk0) | ((with_reducible refine gate_callee (f := 13) rfl ?_); refine goesL_ (some 75) rfl rfl Tryd.func13 (by kernel_rfl) rfl #[.slice Ao49 t363.length co49, .int .i64 1] rfl (zM) ?_; (with_reducible refine (laws_heldIntSS.calls kj29 _ _ t363 1 t366 _ ?side1 ?side2 A45.out).mono ?_); (case side1 => repeat (first | exact (Kd.S_reads' HO365.out).2.2 | (with_reducible refine Kd.C_alloc ?_ _) | (with_reducible refine Kd.C_drewN ?_ _) | (with_reducible refine Kd.C_drew ?_))); (case side2 => exact (Kd.S_reads' HO365.out).2.1); rintro e w' ⟨rfl, ⟨nd, rfl⟩⟩; refine ⟨_, rfl, ?_⟩))
          go_ret
          exact ⟨by first | rfl | (simp [errW_none, errW_some] <;> rfl) | (simp [*, errW_none, errW_some] <;> rfl), by repeat (first | (with_reducible first | exact HB.out | apply below_alloc | apply pw_below_drewN | apply below_drew1) | exact HB.out)⟩
         ·rw [if_neg c46] at H
          have c46b0 : decide (t366 < 0) = false := decide_eq_false c46; clear c46
          by_cases c50 : t366 = t362
          ·rw [if_pos c50] at H
           have c50b0 : (t366 == t362) = true := beq_iff_eq.mpr c50; have c50b1 : (t366 != t362) = false := bne_eq_false_iff_eq.mpr c50; clear c50
           replace H := Option.bind_eq_some_iff.mp H
           obtain ⟨t367, A510, H⟩ := H
           replace H : ((impl_FadedApart.f kj29 t367 a1 a2).bind fun bt370 => ((laws_eqIntSS.f kj29 bt370.1 t343).bind fun t374 => (if t374 = true then (laws_FnExactFadedApart.j2 kj29 t363 t362 (bt370.2 != t344)) else (laws_FnExactFadedApart.j2 kj29 t363 t362 true)))) = some r := H
           have A51 := zA A510; clear A510
           replace H := Option.bind_eq_some_iff.mp H
           obtain ⟨⟨t370, t371⟩, A520, H⟩ := H
           replace H : ((laws_eqIntSS.f kj29 t370 t343).bind fun t374 => (if t374 = true then (laws_FnExactFadedApart.j2 kj29 t363 t362 (t371 != t344)) else (laws_FnExactFadedApart.j2 kj29 t363 t362 true))) = some r := H
           have A52 := zA A520; clear A520; have HC53 := zA H; clear H
           obtain ⟨Ao54, co54, eo54⟩ := Kd.S_slice HO_11.out
           subst eo54
           go_upto_region 25 with (first | ((with_reducible refine gate_callee (f := 12) rfl ?_); refine goesL_ (some 72) rfl rfl Tryd.func12 (by kernel_rfl) rfl #[.slice Ao54 t350.length co54, .int .i64 1] rfl (zM) ?_; (with_reducible refine (markSS_own (fun k_ => NN ≤ k_) (.slice Ao54 t350.length co54) t350 1 t362 t363 w _ ?side1 ?side2 A43.out A44.out).mono ?_); (case side1 => exact (zW HB)); (case side2 => exact (by (with_reducible repeat (first | apply Kd.S_alloc | apply Kd.S_drewN | apply Kd.S_drew)); exact HO_11.out)); rintro e w55 ⟨rfl, ho0, hb, hk0⟩; refine ⟨_, rfl, ?_⟩; have hl_ := cut_len A44.out; have n0_ := zA (Kd.S_kept (by (with_reducible repeat (first | apply Kd.S_alloc | apply Kd.S_drewN | apply Kd.S_drew)); exact HO_8.out) hk0 (fun k_ hk_ hs_ => absurd hs_ (Nat.not_le_of_lt hk_))); rw [← hl_] at ho0; rw [← hl_]; clear hl_; obtain ⟨Ao56, hA_⟩ : ∃ A_, A_ = Ao54 := ⟨_, rfl⟩; obtain ⟨co56, hc_⟩ : ∃ c_, c_ = co54 := ⟨_, rfl⟩; subst hA_; subst hc_; have n1_ := zA ho0; have n3_ := zA hb; clear HO_8; clear HO_11; clear HB; have HO_8 := n0_; have HO_11 := n1_; have HO365 := n1_; have HB := n3_; clear n0_ n1_ n3_; clear hb ho0 hk0) | ((with_reducible refine gate_callee (f := 13) rfl ?_); refine goesL_ (some 75) rfl rfl Tryd.func13 (by kernel_rfl) rfl #[.slice Ao56 t363.length co56, .int .i64 1] rfl (zM) ?_; (with_reducible refine (laws_heldIntSS.calls kj29 _ _ t363 1 t366 _ ?side1 ?side2 A45.out).mono ?_); (case side1 => repeat (first | exact (Kd.S_reads' HO365.out).2.2 | (with_reducible refine Kd.C_alloc ?_ _) | (with_reducible refine Kd.C_drewN ?_ _) | (with_reducible refine Kd.C_drew ?_))); (case side2 => exact (Kd.S_reads' HO365.out).2.1); rintro e w' ⟨rfl, ⟨nd, rfl⟩⟩; refine ⟨_, rfl, ?_⟩) | ((with_reducible refine gate_callee (f := 7) rfl ?_); refine goesL_ (some 83) rfl rfl Tryd.func7 (by kernel_rfl) rfl #[.slice A0 l0.length c0] rfl (zM) ?_; (with_reducible refine (laws_toShadeS.calls kj29 _ _ l0 t367 _ ?side1 ?side2 A51.out).mono ?_); (case side1 => repeat (first | exact (Kd.C_below HR0.out (zW HB)) | (with_reducible refine Kd.C_alloc ?_ _) | (with_reducible refine Kd.C_drewN ?_ _) | (with_reducible refine Kd.C_drew ?_))); (case side2 => exact HC0.out); rintro e w57 ⟨v368, rfl, ho0, hb⟩; refine ⟨_, rfl, ?_⟩; have n0_ := zA (Kd.S_below (by (with_reducible repeat (first | apply Kd.S_alloc | apply Kd.S_drewN | apply Kd.S_drew)); exact HO_8.out) hb); have n1_ := zA (Kd.S_below (by (with_reducible repeat (first | apply Kd.S_alloc | apply Kd.S_drewN | apply Kd.S_drew)); exact HO_11.out) hb); have n2_ := zA (Kd.S_below (by (with_reducible repeat (first | apply Kd.S_alloc | apply Kd.S_drewN | apply Kd.S_drew)); exact HO365.out) hb); have n3_ := zA (Kd.R_lower ho0 (below_size (zW HB))); have n4_ := zA (below_step (zW HB) hb); clear HO_8; clear HO_11; clear HO365; clear HB; have HO_8 := n0_; have HO_11 := n1_; have HO365 := n2_; have HO369 := n3_; have HB := n4_; clear n0_ n1_ n2_ n3_ n4_; (try clear hb); (try clear hb2); (try clear hk); (try clear hi); (try clear ho0); obtain ⟨Ao58, co58, eo58⟩ := Kd.R_slice HO369.out; subst eo58) | ((with_reducible refine gate_callee (f := 8) rfl ?_); refine goesL_ (some 86) rfl rfl Tryd.func8 (by kernel_rfl) rfl #[.slice Ao58 t367.length co58, .int .i64 a1, .int .i64 a2] rfl (zM) ?_; (with_reducible refine (impl_FadedApart.calls kj29 _ _ t367 a1 a2 t370 t371 _ ?side1 ?side2 A52.out).mono ?_); (case side1 => repeat (first | exact (Kd.R_reads' HO369.out).2.2 | (with_reducible refine Kd.C_alloc ?_ _) | (with_reducible refine Kd.C_drewN ?_ _) | (with_reducible refine Kd.C_drew ?_))); (case side2 => exact (Kd.R_reads' HO369.out).2.1); rintro e w59 ⟨v372, rfl, ho0, hb⟩; refine ⟨_, rfl, ?_⟩; have n0_ := zA (Kd.S_elder' (by (with_reducible repeat (first | apply Kd.S_alloc | apply Kd.S_drewN | apply Kd.S_drew)); exact HO_8.out) (Kd.S_base ho0) hb); have n1_ := zA (Kd.S_elder' (by (with_reducible repeat (first | apply Kd.S_alloc | apply Kd.S_drewN | apply Kd.S_drew)); exact HO_11.out) (Kd.S_base ho0) hb); have n2_ := zA (Kd.S_elder' (by (with_reducible repeat (first | apply Kd.S_alloc | apply Kd.S_drewN | apply Kd.S_drew)); exact HO365.out) (Kd.S_base ho0) hb); have n3_ := zA (Kd.R_below (zR HO369) hb); have n4_ := zA (Kd.S_lower (Kd.S_new' (Kd.S_new' (Kd.S_new' ho0 (Kd.S_lt (by (with_reducible repeat (first | apply Kd.S_alloc | apply Kd.S_drewN | apply Kd.S_drew)); exact HO_8.out))) (Kd.S_lt (by (with_reducible repeat (first | apply Kd.S_alloc | apply Kd.S_drewN | apply Kd.S_drew)); exact HO_11.out))) (Kd.S_lt (by (with_reducible repeat (first | apply Kd.S_alloc | apply Kd.S_drewN | apply Kd.S_drew)); exact HO365.out))) (below_size (zW HB))); have n5_ := zA (below_step (zW HB) hb); clear HO_8; clear HO_11; clear HO365; clear HO369; clear HB; have HO_8 := n0_; have HO_11 := n1_; have HO365 := n2_; have HO369 := n3_; have HO373 := n4_; have HB := n5_; clear n0_ n1_ n2_ n3_ n4_ n5_; (try clear hb); (try clear hb2); (try clear hk); (try clear hi); (try clear ho0)))
           (try simp only [Act.put, List.setIfInBounds_toArray, List.set_cons_zero, List.set_cons_succ])
           go_cut [97] (fun v97 wc => ∃ (kq : Nat) (x97_52 : Bool), v97 = .bool x97_52 ∧ Aside0 (laws_FnExactFadedApart.j2 kq t363 t362 x97_52 = some r) ∧ Aside0 (kq ≤ kj29) ∧ Aside0 (Kd.S (Kd.slice 3 (Kd.int .i64)) 45 wc w.heap.size (fun _ => True) (.slice Ao56 t363.length co56) t363) ∧ Aside0 (Below w.heap.size w wc))
           case first =>
            have H := HC53.out; clear HC53
            replace H := Option.bind_eq_some_iff.mp H
            obtain ⟨t374, A600, H⟩ := H
            replace H : (if t374 = true then (laws_FnExactFadedApart.j2 kj29 t363 t362 (t371 != t344)) else (laws_FnExactFadedApart.j2 kj29 t363 t362 true)) = some r := H
            have A60 := zA A600; clear A600
            by_cases c61 : t374 = true
            ·subst c61
             have H1 : (laws_FnExactFadedApart.j2 kj29 t363 t362 (t371 != t344)) = some r := by rw [if_pos rfl] at H; exact H
             clear H; have H := H1; clear H1; have H' := zA H; clear H
             obtain ⟨Ao62, co62, eo62⟩ := Kd.S_slice HO373.out
             subst eo62
             obtain ⟨Ao63, co63, eo63⟩ := Kd.S_slice HO_8.out
             subst eo63
             go_wp2_with (first | ((with_reducible refine gate_callee (f := 9) rfl ?_); refine goesL_ (some 91) rfl rfl Tryd.func9 (by kernel_rfl) rfl #[.slice Ao62 t370.length co62, .slice Ao63 t343.length co63] rfl (zM) ?_; (with_reducible refine (laws_eqIntSS.calls kj29 _ _ t370 _ _ t343 true _ ?side1 ?side2 ?side3 ?side4 A60.out).mono ?_); (case side1 => repeat (first | exact (Kd.S_reads' HO373.out).2.2 | (with_reducible refine Kd.C_alloc ?_ _) | (with_reducible refine Kd.C_drewN ?_ _) | (with_reducible refine Kd.C_drew ?_))); (case side2 => exact (Kd.S_reads' HO373.out).2.1); (case side3 => repeat (first | exact (Kd.S_reads' HO_8.out).2.2 | (with_reducible refine Kd.C_alloc ?_ _) | (with_reducible refine Kd.C_drewN ?_ _) | (with_reducible refine Kd.C_drew ?_))); (case side4 => exact (Kd.S_reads' HO_8.out).2.1); rintro e w' ⟨rfl, ⟨nd, rfl⟩⟩; refine ⟨_, rfl, ?_⟩))
             go_meet
             case rel => exact ⟨_, ((t371 != t344)), (by first | rfl | (simp; done) | (simp [*]; done)), H', ⟨by have := HJ10.out; have := HJ29.out; first | omega | exact Nat.le_refl _⟩, ⟨by (with_reducible repeat (first | apply Kd.S_alloc | apply Kd.S_drewN | apply Kd.S_drew)); exact Kd.S_mono HO365.out (fun _ hk => trivial)⟩, ⟨by repeat (first | (with_reducible first | exact HB.out | apply below_alloc | apply pw_below_drewN | apply below_drew1) | exact HB.out)⟩⟩
            ·replace c61 := Bool.eq_false_iff.mpr c61
             subst c61
             have H1 : (laws_FnExactFadedApart.j2 kj29 t363 t362 true) = some r := by rw [if_neg (show ¬ (false = true) by decide)] at H; exact H
             clear H; have H := H1; clear H1; have H' := zA H; clear H
             obtain ⟨Ao64, co64, eo64⟩ := Kd.S_slice HO373.out
             subst eo64
             obtain ⟨Ao65, co65, eo65⟩ := Kd.S_slice HO_8.out
             subst eo65
             go_wp2_with (first | ((with_reducible refine gate_callee (f := 9) rfl ?_); refine goesL_ (some 91) rfl rfl Tryd.func9 (by kernel_rfl) rfl #[.slice Ao64 t370.length co64, .slice Ao65 t343.length co65] rfl (zM) ?_; (with_reducible refine (laws_eqIntSS.calls kj29 _ _ t370 _ _ t343 false _ ?side1 ?side2 ?side3 ?side4 A60.out).mono ?_); (case side1 => repeat (first | exact (Kd.S_reads' HO373.out).2.2 | (with_reducible refine Kd.C_alloc ?_ _) | (with_reducible refine Kd.C_drewN ?_ _) | (with_reducible refine Kd.C_drew ?_))); (case side2 => exact (Kd.S_reads' HO373.out).2.1); (case side3 => repeat (first | exact (Kd.S_reads' HO_8.out).2.2 | (with_reducible refine Kd.C_alloc ?_ _) | (with_reducible refine Kd.C_drewN ?_ _) | (with_reducible refine Kd.C_drew ?_))); (case side4 => exact (Kd.S_reads' HO_8.out).2.1); rintro e w' ⟨rfl, ⟨nd, rfl⟩⟩; refine ⟨_, rfl, ?_⟩))
             go_meet
             case rel => exact ⟨_, (true), (by first | rfl | (simp; done) | (simp [*]; done)), H', ⟨by have := HJ10.out; have := HJ29.out; first | omega | exact Nat.le_refl _⟩, ⟨by (with_reducible repeat (first | apply Kd.S_alloc | apply Kd.S_drewN | apply Kd.S_drew)); exact Kd.S_mono HO365.out (fun _ hk => trivial)⟩, ⟨by repeat (first | (with_reducible first | exact HB.out | apply below_alloc | apply pw_below_drewN | apply below_drew1) | exact HB.out)⟩⟩
           case rest =>
            clear HC53
            try clear c1; try clear c2; try clear p2; try clear c3; try clear c4; try clear c5; try clear c5b0; try clear c6; try clear c7; try clear c8; try clear c9; try clear c10; try clear c11; try clear c12; try clear c13; try clear c20; try clear c25; try clear c28; try clear c35; try clear c35b0; try clear c37; try clear c42; try clear c46; try clear c46b0; try clear c50; try clear c50b0; try clear c50b1; try clear c61; try clear p2
            obtain ⟨kq, x97_52, rfl, HA, HJ52, HO_11, HB⟩ := hcut
            cases kq with
            | zero => exact absurd HA.out (by simp [laws_FnExactFadedApart.j2])
            | succ kj52 =>
             have H := HA.out; clear HA
             simp only [laws_FnExactFadedApart.j2] at H
             by_cases c66 : x97_52 = true
             ·subst c66
              have H1 : (some false) = some r := by rw [if_pos rfl] at H; exact H
              clear H; have H := H1; clear H1
              obtain rfl := Option.some.inj H
              go_wp2
              go_ret
              exact ⟨by first | rfl | (simp [errW_none, errW_some] <;> rfl) | (simp [*, errW_none, errW_some] <;> rfl), by repeat (first | (with_reducible first | exact HB.out | apply below_alloc | apply pw_below_drewN | apply below_drew1) | exact HB.out)⟩
             ·replace c66 := Bool.eq_false_iff.mpr c66
              subst c66
              have H1 : ((laws_heldIntSS.f kj52 t363 1).bind fun t375 => (if t375 < 0 then (some false) else (if t375 = t362 then (some true) else (some false)))) = some r := by rw [if_neg (show ¬ (false = true) by decide)] at H; exact H
              clear H; have H := H1; clear H1
              replace H := Option.bind_eq_some_iff.mp H
              obtain ⟨t375, A670, H⟩ := H
              replace H : (if t375 < 0 then (some false) else (if t375 = t362 then (some true) else (some false))) = some r := H
              have A67 := zA A670; clear A670
              by_cases c68 : t375 < 0
              ·rw [if_pos c68] at H
               have c68b0 : decide (t375 < 0) = true := decide_eq_true c68; clear c68
               obtain rfl := Option.some.inj H
               go_wp2_with (first | ((with_reducible refine gate_callee (f := 13) rfl ?_); refine goesL_ (some 100) rfl rfl Tryd.func13 (by kernel_rfl) rfl #[.slice Ao56 t363.length co56, .int .i64 1] rfl (zM) ?_; (with_reducible refine (laws_heldIntSS.calls kj52 _ _ t363 1 t375 _ ?side1 ?side2 A67.out).mono ?_); (case side1 => repeat (first | exact (Kd.S_reads' HO_11.out).2.2 | (with_reducible refine Kd.C_alloc ?_ _) | (with_reducible refine Kd.C_drewN ?_ _) | (with_reducible refine Kd.C_drew ?_))); (case side2 => exact (Kd.S_reads' HO_11.out).2.1); rintro e w' ⟨rfl, ⟨nd, rfl⟩⟩; refine ⟨_, rfl, ?_⟩))
               go_ret
               exact ⟨by first | rfl | (simp [errW_none, errW_some] <;> rfl) | (simp [*, errW_none, errW_some] <;> rfl), by repeat (first | (with_reducible first | exact HB.out | apply below_alloc | apply pw_below_drewN | apply below_drew1) | exact HB.out)⟩
              ·rw [if_neg c68] at H
               have c68b0 : decide (t375 < 0) = false := decide_eq_false c68; clear c68
               by_cases c69 : t375 = t362
               ·rw [if_pos c69] at H
                have c69b0 : (t375 == t362) = true := beq_iff_eq.mpr c69; have c69b1 : (t375 != t362) = false := bne_eq_false_iff_eq.mpr c69; clear c69
                obtain rfl := Option.some.inj H
                go_wp2_with (first | ((with_reducible refine gate_callee (f := 13) rfl ?_); refine goesL_ (some 100) rfl rfl Tryd.func13 (by kernel_rfl) rfl #[.slice Ao56 t363.length co56, .int .i64 1] rfl (zM) ?_; (with_reducible refine (laws_heldIntSS.calls kj52 _ _ t363 1 t375 _ ?side1 ?side2 A67.out).mono ?_); (case side1 => repeat (first | exact (Kd.S_reads' HO_11.out).2.2 | (with_reducible refine Kd.C_alloc ?_ _) | (with_reducible refine Kd.C_drewN ?_ _) | (with_reducible refine Kd.C_drew ?_))); (case side2 => exact (Kd.S_reads' HO_11.out).2.1); rintro e w' ⟨rfl, ⟨nd, rfl⟩⟩; refine ⟨_, rfl, ?_⟩))
                go_ret
                exact ⟨by first | rfl | (simp [errW_none, errW_some] <;> rfl) | (simp [*, errW_none, errW_some] <;> rfl), by repeat (first | (with_reducible first | exact HB.out | apply below_alloc | apply pw_below_drewN | apply below_drew1) | exact HB.out)⟩
               ·rw [if_neg c69] at H
                have c69b0 : (t375 == t362) = false := beq_eq_false_iff_ne.mpr c69; have c69b1 : (t375 != t362) = true := bne_iff_ne.mpr c69
                obtain rfl := Option.some.inj H
                go_wp2_with (first | ((with_reducible refine gate_callee (f := 13) rfl ?_); refine goesL_ (some 100) rfl rfl Tryd.func13 (by kernel_rfl) rfl #[.slice Ao56 t363.length co56, .int .i64 1] rfl (zM) ?_; (with_reducible refine (laws_heldIntSS.calls kj52 _ _ t363 1 t375 _ ?side1 ?side2 A67.out).mono ?_); (case side1 => repeat (first | exact (Kd.S_reads' HO_11.out).2.2 | (with_reducible refine Kd.C_alloc ?_ _) | (with_reducible refine Kd.C_drewN ?_ _) | (with_reducible refine Kd.C_drew ?_))); (case side2 => exact (Kd.S_reads' HO_11.out).2.1); rintro e w' ⟨rfl, ⟨nd, rfl⟩⟩; refine ⟨_, rfl, ?_⟩))
                go_ret
                exact ⟨by first | rfl | (simp [errW_none, errW_some] <;> rfl) | (simp [*, errW_none, errW_some] <;> rfl), by repeat (first | (with_reducible first | exact HB.out | apply below_alloc | apply pw_below_drewN | apply below_drew1) | exact HB.out)⟩
          ·rw [if_neg c50] at H
           have c50b0 : (t366 == t362) = false := beq_eq_false_iff_ne.mpr c50; have c50b1 : (t366 != t362) = true := bne_iff_ne.mpr c50
           obtain rfl := Option.some.inj H
           obtain ⟨Ao70, co70, eo70⟩ := Kd.S_slice HO_11.out
           subst eo70
           go_wp2_with (first | ((with_reducible refine gate_callee (f := 12) rfl ?_); refine goesL_ (some 72) rfl rfl Tryd.func12 (by kernel_rfl) rfl #[.slice Ao70 t350.length co70, .int .i64 1] rfl (zM) ?_; (with_reducible refine (markSS_own (fun k_ => NN ≤ k_) (.slice Ao70 t350.length co70) t350 1 t362 t363 w _ ?side1 ?side2 A43.out A44.out).mono ?_); (case side1 => exact (zW HB)); (case side2 => exact (by (with_reducible repeat (first | apply Kd.S_alloc | apply Kd.S_drewN | apply Kd.S_drew)); exact HO_11.out)); rintro e w71 ⟨rfl, ho0, hb, hk0⟩; refine ⟨_, rfl, ?_⟩; have hl_ := cut_len A44.out; have n0_ := zA (Kd.S_kept (by (with_reducible repeat (first | apply Kd.S_alloc | apply Kd.S_drewN | apply Kd.S_drew)); exact HO_8.out) hk0 (fun k_ hk_ hs_ => absurd hs_ (Nat.not_le_of_lt hk_))); rw [← hl_] at ho0; rw [← hl_]; clear hl_; obtain ⟨Ao72, hA_⟩ : ∃ A_, A_ = Ao70 := ⟨_, rfl⟩; obtain ⟨co72, hc_⟩ : ∃ c_, c_ = co70 := ⟨_, rfl⟩; subst hA_; subst hc_; have n1_ := zA ho0; have n3_ := zA hb; clear HO_8; clear HO_11; clear HB; have HO_8 := n0_; have HO_11 := n1_; have HO365 := n1_; have HB := n3_; clear n0_ n1_ n3_; clear hb ho0 hk0) | ((with_reducible refine gate_callee (f := 13) rfl ?_); refine goesL_ (some 75) rfl rfl Tryd.func13 (by kernel_rfl) rfl #[.slice Ao72 t363.length co72, .int .i64 1] rfl (zM) ?_; (with_reducible refine (laws_heldIntSS.calls kj29 _ _ t363 1 t366 _ ?side1 ?side2 A45.out).mono ?_); (case side1 => repeat (first | exact (Kd.S_reads' HO365.out).2.2 | (with_reducible refine Kd.C_alloc ?_ _) | (with_reducible refine Kd.C_drewN ?_ _) | (with_reducible refine Kd.C_drew ?_))); (case side2 => exact (Kd.S_reads' HO365.out).2.1); rintro e w' ⟨rfl, ⟨nd, rfl⟩⟩; refine ⟨_, rfl, ?_⟩))
           go_ret
           exact ⟨by first | rfl | (simp [errW_none, errW_some] <;> rfl) | (simp [*, errW_none, errW_some] <;> rfl), by repeat (first | (with_reducible first | exact HB.out | apply below_alloc | apply pw_below_drewN | apply below_drew1) | exact HB.out)⟩
     ·replace c28 := Bool.eq_false_iff.mpr c28
      subst c28
      have H1 : (some false) = some r := by rw [if_neg (show ¬ (false = true) by decide)] at H; exact H
      clear H; have H := H1; clear H1
      obtain rfl := Option.some.inj H
      go_wp2_with (first | ((with_reducible refine gate_callee (f := 7) rfl ?_); refine goesL_ (some 51) rfl rfl Tryd.func7 (by kernel_rfl) rfl #[.slice A0 l0.length c0] rfl (zM) ?_; (with_reducible refine (laws_toShadeS.calls kj10 _ _ l0 t355 _ ?side1 ?side2 A26.out).mono ?_); (case side1 => repeat (first | exact (Kd.C_below HR0.out HB.out) | (with_reducible refine Kd.C_alloc ?_ _) | (with_reducible refine Kd.C_drewN ?_ _) | (with_reducible refine Kd.C_drew ?_))); (case side2 => exact HC0.out); rintro e w73 ⟨v356, rfl, ho0, hb⟩; refine ⟨_, rfl, ?_⟩; have n0_ := zA (Kd.S_below (by (with_reducible repeat (first | apply Kd.S_alloc | apply Kd.S_drewN | apply Kd.S_drew)); exact HO_8.out) hb); have n1_ := zA (Kd.R_elder' (zR HO_10) (Kd.R_base ho0) hb); have n2_ := zA (Kd.S_below (by (with_reducible repeat (first | apply Kd.S_alloc | apply Kd.S_drewN | apply Kd.S_drew)); exact HO_11.out) hb); have n3_ := zA (Kd.R_lower (Kd.R_new' ho0 (Kd.R_lt (zR HO_10))) (below_size (zW HB))); have n4_ := zA (below_step (zW HB) hb); clear HO_8; clear HO_10; clear HO_11; clear HB; have HO_8 := n0_; have HO_10 := n1_; have HO_11 := n2_; have HO357 := n3_; have HB := n4_; clear n0_ n1_ n2_ n3_ n4_; (try clear hb); (try clear hb2); (try clear hk); (try clear hi); (try clear ho0); obtain ⟨Ao74, co74, eo74⟩ := Kd.R_slice HO357.out; subst eo74) | ((with_reducible refine gate_callee (f := 10) rfl ?_); refine goesL_ (some 52) rfl rfl Tryd.func10 (by kernel_rfl) rfl #[.slice Ao17 t347.length co17, .slice Ao74 t355.length co74] rfl (zM) ?_; (with_reducible refine (laws_eqShadeS.calls kj10 _ _ t347 _ _ t355 false _ ?side1 ?side2 ?side3 ?side4 A27.out).mono ?_); (case side1 => repeat (first | exact (Kd.R_reads' HO_10.out).2.2 | (with_reducible refine Kd.C_alloc ?_ _) | (with_reducible refine Kd.C_drewN ?_ _) | (with_reducible refine Kd.C_drew ?_))); (case side2 => exact (Kd.R_reads' HO_10.out).2.1); (case side3 => repeat (first | exact (Kd.R_reads' HO357.out).2.2 | (with_reducible refine Kd.C_alloc ?_ _) | (with_reducible refine Kd.C_drewN ?_ _) | (with_reducible refine Kd.C_drew ?_))); (case side4 => exact (Kd.R_reads' HO357.out).2.1); rintro e w75 ⟨rfl, hb⟩; refine ⟨_, rfl, ?_⟩; have n0_ := zA (Kd.S_below (by (with_reducible repeat (first | apply Kd.S_alloc | apply Kd.S_drewN | apply Kd.S_drew)); exact HO_8.out) hb); have n1_ := zA (Kd.R_below (zR HO_10) hb); have n2_ := zA (Kd.S_below (by (with_reducible repeat (first | apply Kd.S_alloc | apply Kd.S_drewN | apply Kd.S_drew)); exact HO_11.out) hb); have n3_ := zA (Kd.R_below (zR HO357) hb); have n4_ := zA (below_step (zW HB) hb); clear HO_8; clear HO_10; clear HO_11; clear HO357; clear HB; have HO_8 := n0_; have HO_10 := n1_; have HO_11 := n2_; have HO357 := n3_; have HB := n4_; clear n0_ n1_ n2_ n3_ n4_; (try clear hb); (try clear hb2); (try clear hk); (try clear hi)))
      go_ret
      exact ⟨by first | rfl | (simp [errW_none, errW_some] <;> rfl) | (simp [*, errW_none, errW_some] <;> rfl), by repeat (first | (with_reducible first | exact HB.out | apply below_alloc | apply pw_below_drewN | apply below_drew1) | exact HB.out)⟩
end Go.Proofs.YtggikmajopmchaaDoor.G
