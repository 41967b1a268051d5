-- Printed by a program of this session (wip/tools/gp.sh); Lean checks it.
import Derived.Test.YtceiacmieipleaaDoorGx0
import Derived.Test.YtceiacmieipleaaDoorGz
import Derived.Test.YtceiacmieipleaaDoorGx5
import Derived.Test.YtceiacmieipleaaDoorGs2
import Derived.Test.YtceiacmieipleaaDoorGx9
import Derived.Test.YtceiacmieipleaaDoorGs1
import Derived.Test.YtceiacmieipleaaDoorGx11
import Derived.Test.YtceiacmieipleaaDoorGx12
import Derived.Test.YtceiacmieipleaaDoorGx13
namespace Go.Proofs.YtceiacmieipleaaDoor.G
open Go.RowKit Go.Proofs.YtceiacmieipleaaDoorW.PrintWords Go.Proofs.YtceiacmieipleaaDoorW.PrintLast Go.Proofs.YtceiacmieipleaaDoorW.PrintMore
attribute [local go_sem] isSome_setCell_ max2_int min2_int max_two min_two max_three min_three max_four min_four   -- for this text's walks alone
set_option linter.unusedVariables false
set_option linter.unusedSimpArgs false

/-! ### laws_FnExactMixRecipes: function 3 -/
mutual
def laws_FnExactMixRecipes.j0 : Nat → List (S33) → List (S33) → Int → List (S36) → Bool → List (S36) → List (S36) → List (S36) → Bool → Bool → Option (Bool)
 | 0, _, _, _, _, _, _, _, _, _, _ => none
 | k + 1, x0, x1, x2, x8, x9, x10, x11, x12, x13, x57 => if x57 = true then (some false) else ((laws_toDyePartS.f k x0).bind fun t246 => ((laws_eqDyePartS.f k x10 t246).bind fun t249 => (if t249 = true then ((laws_toDyePartS.f k x1).bind fun t250 => ((laws_eqDyePartS.f k x11 t250).bind fun t253 => (if t253 = true then ((laws_markDyePartS.f k x10 1).bind fun bt254 => ((laws_markDyePartS.f k x11 bt254.1).bind fun bt256 => (if bt256.1 < 0 then (laws_FnExactMixRecipes.j1 k x0 x1 x2 x8 x9 x12 true) else ((laws_eqDyePartS.f k x12 x8).bind fun t258 => (if t258 = true then (laws_FnExactMixRecipes.j1 k x0 x1 x2 x8 x9 x12 (x13 != x9)) else (laws_FnExactMixRecipes.j1 k x0 x1 x2 x8 x9 x12 true)))))) else (some false)))) else (some false))))
def laws_FnExactMixRecipes.j1 : Nat → List (S33) → List (S33) → Int → List (S36) → Bool → List (S36) → Bool → Option (Bool)
 | 0, _, _, _, _, _, _, _ => none
 | k + 1, x0, x1, x2, x8, x9, x12, x86 => if x86 = true then (some false) else ((laws_markDyePartS.f k x12 1).bind fun bt259 => ((laws_heldDyePartS.f k bt259.2 1).bind fun t261 => (if t261 < 0 then (some false) else (if t261 = bt259.1 then ((laws_toDyePartS.f k x0).bind fun t262 => ((laws_toDyePartS.f k x1).bind fun t265 => ((impl_MixRecipes.f k t262 t265 x2).bind fun bt268 => ((laws_eqDyePartS.f k bt268.1 x8).bind fun t272 => (if t272 = true then (laws_FnExactMixRecipes.j2 k bt259.2 bt259.1 (bt268.2 != x9)) else (laws_FnExactMixRecipes.j2 k bt259.2 bt259.1 true)))))) else (some false)))))
def laws_FnExactMixRecipes.j2 : Nat → List (S36) → Int → Bool → Option (Bool)
 | 0, _, _, _ => none
 | k + 1, x12, x15, x115 => if x115 = true then (some false) else ((laws_heldDyePartS.f k x12 1).bind fun t273 => (if t273 < 0 then (some false) else (if t273 = x15 then (some true) else (some false))))
end
def laws_FnExactMixRecipes.f (k : Nat) (l0 : List (S33)) (l1 : List (S33)) (a2 : Int) : Option (Bool) := (laws_szDyePartS.f k l0 1048576).bind fun t223 => (if t223 < 0 then (some true) else ((laws_szDyePartS.f k l1 t223).bind fun t224 => (if t224 < 0 then (some true) else ((laws_toDyePartS.f k l0).bind fun t225 => ((laws_toDyePartS.f k l1).bind fun t228 => ((spec_MixRecipes.f k t225 t228 a2).bind fun bt231 => ((laws_toDyePartS.f k l0).bind fun t235 => ((laws_toDyePartS.f k l1).bind fun t238 => ((impl_MixRecipes.f k t235 t238 a2).bind fun bt241 => ((laws_eqDyePartS.f k bt241.1 bt231.1).bind fun t245 => (if t245 = true then (laws_FnExactMixRecipes.j0 k l0 l1 a2 bt231.1 bt231.2 t235 t238 bt241.1 bt241.2 (bt241.2 != bt231.2)) else (laws_FnExactMixRecipes.j0 k l0 l1 a2 bt231.1 bt231.2 t235 t238 bt241.1 bt241.2 true))))))))))))
theorem laws_FnExactMixRecipes.mono_l : ∀ k, (∀ y0 y1 y2 y3 y4 y5 y6 y7 y8 y9, LeO (laws_FnExactMixRecipes.j0 k y0 y1 y2 y3 y4 y5 y6 y7 y8 y9) (laws_FnExactMixRecipes.j0 (k + 1) y0 y1 y2 y3 y4 y5 y6 y7 y8 y9)) ∧ (∀ y0 y1 y2 y3 y4 y5 y6, LeO (laws_FnExactMixRecipes.j1 k y0 y1 y2 y3 y4 y5 y6) (laws_FnExactMixRecipes.j1 (k + 1) y0 y1 y2 y3 y4 y5 y6)) ∧ (∀ y0 y1 y2, LeO (laws_FnExactMixRecipes.j2 k y0 y1 y2) (laws_FnExactMixRecipes.j2 (k + 1) y0 y1 y2))
 | 0 => ⟨fun _ _ _ _ _ _ _ _ _ _ r h => by simp [laws_FnExactMixRecipes.j0] at h, fun _ _ _ _ _ _ _ r h => by simp [laws_FnExactMixRecipes.j1] at h, fun _ _ _ r h => by simp [laws_FnExactMixRecipes.j2] at h⟩
 | k + 1 => by
  obtain ⟨ih0, ih1, ih2⟩ := laws_FnExactMixRecipes.mono_l k
  refine ⟨?_, ?_, ?_⟩
  ·intro y0 y1 y2 y3 y4 y5 y6 y7 y8 y9
   unfold laws_FnExactMixRecipes.j0
   repeat' first
   | (with_reducible exact ih0 _ _ _ _ _ _ _ _ _ _)
   | (with_reducible exact ih1 _ _ _ _ _ _ _)
   | (with_reducible exact ih2 _ _ _)
   | (with_reducible exact impl_MixRecipes.mono _ _ _ _)
   | (with_reducible exact laws_eqDyePartS.mono _ _ _)
   | (with_reducible exact laws_heldDyePartS.mono _ _ _)
   | (with_reducible exact laws_markDyePartS.mono _ _ _)
   | (with_reducible exact laws_szDyePartS.mono _ _ _)
   | (with_reducible exact laws_toDyePartS.mono _ _)
   | (with_reducible exact spec_MixRecipes.mono _ _ _ _)
   | (with_reducible exact LeO.refl _)
   | (with_reducible exact LeO.none _)
   | (with_reducible refine LeO.ite ?_ ?_)
   | (with_reducible refine LeO.bind ?_ (fun _ => ?_))
   | exact ih0 _ _ _ _ _ _ _ _ _ _
   | exact ih1 _ _ _ _ _ _ _
   | exact ih2 _ _ _
   | exact impl_MixRecipes.mono _ _ _ _
   | exact laws_eqDyePartS.mono _ _ _
   | exact laws_heldDyePartS.mono _ _ _
   | exact laws_markDyePartS.mono _ _ _
   | exact laws_szDyePartS.mono _ _ _
   | exact laws_toDyePartS.mono _ _
   | exact spec_MixRecipes.mono _ _ _ _
   | exact LeO.none _
   | refine LeO.ite ?_ ?_
   | refine LeO.bind ?_ (fun _ => ?_)
  ·intro y0 y1 y2 y3 y4 y5 y6
   unfold laws_FnExactMixRecipes.j1
   repeat' first
   | (with_reducible exact ih0 _ _ _ _ _ _ _ _ _ _)
   | (with_reducible exact ih1 _ _ _ _ _ _ _)
   | (with_reducible exact ih2 _ _ _)
   | (with_reducible exact impl_MixRecipes.mono _ _ _ _)
   | (with_reducible exact laws_eqDyePartS.mono _ _ _)
   | (with_reducible exact laws_heldDyePartS.mono _ _ _)
   | (with_reducible exact laws_markDyePartS.mono _ _ _)
   | (with_reducible exact laws_szDyePartS.mono _ _ _)
   | (with_reducible exact laws_toDyePartS.mono _ _)
   | (with_reducible exact spec_MixRecipes.mono _ _ _ _)
   | (with_reducible exact LeO.refl _)
   | (with_reducible exact LeO.none _)
   | (with_reducible refine LeO.ite ?_ ?_)
   | (with_reducible refine LeO.bind ?_ (fun _ => ?_))
   | exact ih0 _ _ _ _ _ _ _ _ _ _
   | exact ih1 _ _ _ _ _ _ _
   | exact ih2 _ _ _
   | exact impl_MixRecipes.mono _ _ _ _
   | exact laws_eqDyePartS.mono _ _ _
   | exact laws_heldDyePartS.mono _ _ _
   | exact laws_markDyePartS.mono _ _ _
   | exact laws_szDyePartS.mono _ _ _
   | exact laws_toDyePartS.mono _ _
   | exact spec_MixRecipes.mono _ _ _ _
   | exact LeO.none _
   | refine LeO.ite ?_ ?_
   | refine LeO.bind ?_ (fun _ => ?_)
  ·intro y0 y1 y2
   unfold laws_FnExactMixRecipes.j2
   repeat' first
   | (with_reducible exact ih0 _ _ _ _ _ _ _ _ _ _)
   | (with_reducible exact ih1 _ _ _ _ _ _ _)
   | (with_reducible exact ih2 _ _ _)
   | (with_reducible exact impl_MixRecipes.mono _ _ _ _)
   | (with_reducible exact laws_eqDyePartS.mono _ _ _)
   | (with_reducible exact laws_heldDyePartS.mono _ _ _)
   | (with_reducible exact laws_markDyePartS.mono _ _ _)
   | (with_reducible exact laws_szDyePartS.mono _ _ _)
   | (with_reducible exact laws_toDyePartS.mono _ _)
   | (with_reducible exact spec_MixRecipes.mono _ _ _ _)
   | (with_reducible exact LeO.refl _)
   | (with_reducible exact LeO.none _)
   | (with_reducible refine LeO.ite ?_ ?_)
   | (with_reducible refine LeO.bind ?_ (fun _ => ?_))
   | exact ih0 _ _ _ _ _ _ _ _ _ _
   | exact ih1 _ _ _ _ _ _ _
   | exact ih2 _ _ _
   | exact impl_MixRecipes.mono _ _ _ _
   | exact laws_eqDyePartS.mono _ _ _
   | exact laws_heldDyePartS.mono _ _ _
   | exact laws_markDyePartS.mono _ _ _
   | exact laws_szDyePartS.mono _ _ _
   | exact laws_toDyePartS.mono _ _
   | exact spec_MixRecipes.mono _ _ _ _
   | exact LeO.none _
   | refine LeO.ite ?_ ?_
   | refine LeO.bind ?_ (fun _ => ?_)
theorem laws_FnExactMixRecipes.mono : ∀ a0 a1 a2 k, LeO (laws_FnExactMixRecipes.f k a0 a1 a2) (laws_FnExactMixRecipes.f (k + 1) a0 a1 a2) := by
 intro a0 a1 a2 k
 obtain ⟨ih0, ih1, ih2⟩ := laws_FnExactMixRecipes.mono_l k
 unfold laws_FnExactMixRecipes.f
 repeat' first
   | (with_reducible exact ih0 _ _ _ _ _ _ _ _ _ _)
   | (with_reducible exact ih1 _ _ _ _ _ _ _)
   | (with_reducible exact ih2 _ _ _)
   | (with_reducible exact impl_MixRecipes.mono _ _ _ _)
   | (with_reducible exact laws_eqDyePartS.mono _ _ _)
   | (with_reducible exact laws_heldDyePartS.mono _ _ _)
   | (with_reducible exact laws_markDyePartS.mono _ _ _)
   | (with_reducible exact laws_szDyePartS.mono _ _ _)
   | (with_reducible exact laws_toDyePartS.mono _ _)
   | (with_reducible exact spec_MixRecipes.mono _ _ _ _)
   | (with_reducible exact LeO.refl _)
   | (with_reducible exact LeO.none _)
   | (with_reducible refine LeO.ite ?_ ?_)
   | (with_reducible refine LeO.bind ?_ (fun _ => ?_))
   | exact ih0 _ _ _ _ _ _ _ _ _ _
   | exact ih1 _ _ _ _ _ _ _
   | exact ih2 _ _ _
   | exact impl_MixRecipes.mono _ _ _ _
   | exact laws_eqDyePartS.mono _ _ _
   | exact laws_heldDyePartS.mono _ _ _
   | exact laws_markDyePartS.mono _ _ _
   | exact laws_szDyePartS.mono _ _ _
   | exact laws_toDyePartS.mono _ _
   | exact spec_MixRecipes.mono _ _ _ _
   | exact LeO.none _
   | refine LeO.ite ?_ ?_
   | refine LeO.bind ?_ (fun _ => ?_)
set_option maxHeartbeats 8000000 in
set_option maxRecDepth 100000 in
theorem laws_FnExactMixRecipes.calls (k : Nat) (A0 : Option Addr) (c0 : Nat) (l0 : List (S33)) (A1 : Option Addr) (c1 : Nat) (l1 : List (S33)) (a2 : Int) (r : Bool) (w : World) (hr0 : Kd.C k33 w A0 l0.length l0) (hc0 : l0.length ≤ c0) (hr1 : Kd.C k33 w A1 l1.length l1) (hc1 : l1.length ≤ c1) (h : laws_FnExactMixRecipes.f k l0 l1 a2 = some r) :
  Calls Tryd.prog 3 #[.slice A0 l0.length c0, .slice A1 l1.length c1, .int .i64 a2] w fun e w' => e = .returned (.bool r) ∧ Below w.heap.size w w' := by
 have HR0 := zA hr0; have HC0 := zA hc0; clear hr0 hc0; have HR1 := zA hr1; have HC1 := zA hc1; clear hr1 hc1; have HB := zA (Below.refl w.heap.size w); have H : ((laws_szDyePartS.f k l0 1048576).bind fun t223 => (if t223 < 0 then (some true) else ((laws_szDyePartS.f k l1 t223).bind fun t224 => (if t224 < 0 then (some true) else ((laws_toDyePartS.f k l0).bind fun t225 => ((laws_toDyePartS.f k l1).bind fun t228 => ((spec_MixRecipes.f k t225 t228 a2).bind fun bt231 => ((laws_toDyePartS.f k l0).bind fun t235 => ((laws_toDyePartS.f k l1).bind fun t238 => ((impl_MixRecipes.f k t235 t238 a2).bind fun bt241 => ((laws_eqDyePartS.f k bt241.1 bt231.1).bind fun t245 => (if t245 = true then (laws_FnExactMixRecipes.j0 k l0 l1 a2 bt231.1 bt231.2 t235 t238 bt241.1 bt241.2 (bt241.2 != bt231.2)) else (laws_FnExactMixRecipes.j0 k l0 l1 a2 bt231.1 bt231.2 t235 t238 bt241.1 bt241.2 true))))))))))))) = some r := h; clear h
 replace H := Option.bind_eq_some_iff.mp H
 obtain ⟨t223, A40, H⟩ := H
 replace H : (if t223 < 0 then (some true) else ((laws_szDyePartS.f k l1 t223).bind fun t224 => (if t224 < 0 then (some true) else ((laws_toDyePartS.f k l0).bind fun t225 => ((laws_toDyePartS.f k l1).bind fun t228 => ((spec_MixRecipes.f k t225 t228 a2).bind fun bt231 => ((laws_toDyePartS.f k l0).bind fun t235 => ((laws_toDyePartS.f k l1).bind fun t238 => ((impl_MixRecipes.f k t235 t238 a2).bind fun bt241 => ((laws_eqDyePartS.f k bt241.1 bt231.1).bind fun t245 => (if t245 = true then (laws_FnExactMixRecipes.j0 k l0 l1 a2 bt231.1 bt231.2 t235 t238 bt241.1 bt241.2 (bt241.2 != bt231.2)) else (laws_FnExactMixRecipes.j0 k l0 l1 a2 bt231.1 bt231.2 t235 t238 bt241.1 bt241.2 true)))))))))))) = some r := H
 have A4 := zA A40; clear A40
 by_cases c5 : t223 < 0
 ·rw [if_pos c5] at H
  have c5b0 : decide (t223 < 0) = true := decide_eq_true c5; clear c5
  obtain rfl := Option.some.inj H
  go_enter Tryd.func3, Tryd.ntmps3
  go_wp2_with (first | ((with_reducible refine gate_callee (f := 4) rfl ?_); refine goesL_ (some 21) rfl rfl Tryd.func4 (by kernel_rfl) rfl #[.slice A0 l0.length c0, .int .i64 1048576] rfl (zM) ?_; (with_reducible refine (laws_szDyePartS.calls k _ _ l0 1048576 t223 _ ?side1 ?side2 A4.out).mono ?_); (case side1 => repeat (first | exact HR0.out | (with_reducible refine Kd.C_alloc ?_ _) | (with_reducible refine Kd.C_drewN ?_ _) | (with_reducible refine Kd.C_drew ?_))); (case side2 => exact HC0.out); rintro e w6 ⟨rfl, hb⟩; refine ⟨_, rfl, ?_⟩; have n0_ := zA (below_step (zW HB) hb); clear HB; have HB := n0_; clear n0_; (try clear hb); (try clear hb2); (try clear hk); (try clear hi)))
  go_ret
  exact ⟨by first | rfl | (simp [errW_none, errW_some] <;> rfl) | (simp [*, errW_none, errW_some] <;> rfl), by repeat (first | (with_reducible first | exact HB.out | apply below_alloc | apply pw_below_drewN | apply below_drew1) | exact HB.out)⟩
 ·rw [if_neg c5] at H
  have c5b0 : decide (t223 < 0) = false := decide_eq_false c5; clear c5
  replace H := Option.bind_eq_some_iff.mp H
  obtain ⟨t224, A70, H⟩ := H
  replace H : (if t224 < 0 then (some true) else ((laws_toDyePartS.f k l0).bind fun t225 => ((laws_toDyePartS.f k l1).bind fun t228 => ((spec_MixRecipes.f k t225 t228 a2).bind fun bt231 => ((laws_toDyePartS.f k l0).bind fun t235 => ((laws_toDyePartS.f k l1).bind fun t238 => ((impl_MixRecipes.f k t235 t238 a2).bind fun bt241 => ((laws_eqDyePartS.f k bt241.1 bt231.1).bind fun t245 => (if t245 = true then (laws_FnExactMixRecipes.j0 k l0 l1 a2 bt231.1 bt231.2 t235 t238 bt241.1 bt241.2 (bt241.2 != bt231.2)) else (laws_FnExactMixRecipes.j0 k l0 l1 a2 bt231.1 bt231.2 t235 t238 bt241.1 bt241.2 true)))))))))) = some r := H
  have A7 := zA A70; clear A70
  by_cases c8 : t224 < 0
  ·rw [if_pos c8] at H
   have c8b0 : decide (t224 < 0) = true := decide_eq_true c8; clear c8
   obtain rfl := Option.some.inj H
   go_enter Tryd.func3, Tryd.ntmps3
   go_wp2_with (first | ((with_reducible refine gate_callee (f := 4) rfl ?_); refine goesL_ (some 21) rfl rfl Tryd.func4 (by kernel_rfl) rfl #[.slice A0 l0.length c0, .int .i64 1048576] rfl (zM) ?_; (with_reducible refine (laws_szDyePartS.calls k _ _ l0 1048576 t223 _ ?side1 ?side2 A4.out).mono ?_); (case side1 => repeat (first | exact HR0.out | (with_reducible refine Kd.C_alloc ?_ _) | (with_reducible refine Kd.C_drewN ?_ _) | (with_reducible refine Kd.C_drew ?_))); (case side2 => exact HC0.out); rintro e w9 ⟨rfl, hb⟩; refine ⟨_, rfl, ?_⟩; have n0_ := zA (below_step (zW HB) hb); clear HB; have HB := n0_; clear n0_; (try clear hb); (try clear hb2); (try clear hk); (try clear hi)) | ((with_reducible refine gate_callee (f := 4) rfl ?_); refine goesL_ (some 26) rfl rfl Tryd.func4 (by kernel_rfl) rfl #[.slice A1 l1.length c1, .int .i64 t223] rfl (zM) ?_; (with_reducible refine (laws_szDyePartS.calls k _ _ l1 t223 t224 _ ?side1 ?side2 A7.out).mono ?_); (case side1 => repeat (first | exact (Kd.C_below HR1.out HB.out) | (with_reducible refine Kd.C_alloc ?_ _) | (with_reducible refine Kd.C_drewN ?_ _) | (with_reducible refine Kd.C_drew ?_))); (case side2 => exact HC1.out); rintro e w10 ⟨rfl, hb⟩; refine ⟨_, rfl, ?_⟩; have n0_ := zA (below_step (zW HB) hb); clear HB; have HB := n0_; clear n0_; (try clear hb); (try clear hb2); (try clear hk); (try clear hi)))
   go_ret
   exact ⟨by first | rfl | (simp [errW_none, errW_some] <;> rfl) | (simp [*, errW_none, errW_some] <;> rfl), by repeat (first | (with_reducible first | exact HB.out | apply below_alloc | apply pw_below_drewN | apply below_drew1) | exact HB.out)⟩
  ·rw [if_neg c8] at H
   have c8b0 : decide (t224 < 0) = false := decide_eq_false c8; clear c8
   replace H := Option.bind_eq_some_iff.mp H
   obtain ⟨t225, A110, H⟩ := H
   replace H : ((laws_toDyePartS.f k l1).bind fun t228 => ((spec_MixRecipes.f k t225 t228 a2).bind fun bt231 => ((laws_toDyePartS.f k l0).bind fun t235 => ((laws_toDyePartS.f k l1).bind fun t238 => ((impl_MixRecipes.f k t235 t238 a2).bind fun bt241 => ((laws_eqDyePartS.f k bt241.1 bt231.1).bind fun t245 => (if t245 = true then (laws_FnExactMixRecipes.j0 k l0 l1 a2 bt231.1 bt231.2 t235 t238 bt241.1 bt241.2 (bt241.2 != bt231.2)) else (laws_FnExactMixRecipes.j0 k l0 l1 a2 bt231.1 bt231.2 t235 t238 bt241.1 bt241.2 true)))))))) = some r := H
   have A11 := zA A110; clear A110
   replace H := Option.bind_eq_some_iff.mp H
   obtain ⟨t228, A120, H⟩ := H
   replace H : ((spec_MixRecipes.f k t225 t228 a2).bind fun bt231 => ((laws_toDyePartS.f k l0).bind fun t235 => ((laws_toDyePartS.f k l1).bind fun t238 => ((impl_MixRecipes.f k t235 t238 a2).bind fun bt241 => ((laws_eqDyePartS.f k bt241.1 bt231.1).bind fun t245 => (if t245 = true then (laws_FnExactMixRecipes.j0 k l0 l1 a2 bt231.1 bt231.2 t235 t238 bt241.1 bt241.2 (bt241.2 != bt231.2)) else (laws_FnExactMixRecipes.j0 k l0 l1 a2 bt231.1 bt231.2 t235 t238 bt241.1 bt241.2 true))))))) = some r := H
   have A12 := zA A120; clear A120
   replace H := Option.bind_eq_some_iff.mp H
   obtain ⟨⟨t231, t232⟩, A130, H⟩ := H
   replace H : ((laws_toDyePartS.f k l0).bind fun t235 => ((laws_toDyePartS.f k l1).bind fun t238 => ((impl_MixRecipes.f k t235 t238 a2).bind fun bt241 => ((laws_eqDyePartS.f k bt241.1 t231).bind fun t245 => (if t245 = true then (laws_FnExactMixRecipes.j0 k l0 l1 a2 t231 t232 t235 t238 bt241.1 bt241.2 (bt241.2 != t232)) else (laws_FnExactMixRecipes.j0 k l0 l1 a2 t231 t232 t235 t238 bt241.1 bt241.2 true)))))) = some r := H
   have A13 := zA A130; clear A130
   replace H := Option.bind_eq_some_iff.mp H
   obtain ⟨t235, A140, H⟩ := H
   replace H : ((laws_toDyePartS.f k l1).bind fun t238 => ((impl_MixRecipes.f k t235 t238 a2).bind fun bt241 => ((laws_eqDyePartS.f k bt241.1 t231).bind fun t245 => (if t245 = true then (laws_FnExactMixRecipes.j0 k l0 l1 a2 t231 t232 t235 t238 bt241.1 bt241.2 (bt241.2 != t232)) else (laws_FnExactMixRecipes.j0 k l0 l1 a2 t231 t232 t235 t238 bt241.1 bt241.2 true))))) = some r := H
   have A14 := zA A140; clear A140
   replace H := Option.bind_eq_some_iff.mp H
   obtain ⟨t238, A150, H⟩ := H
   replace H : ((impl_MixRecipes.f k t235 t238 a2).bind fun bt241 => ((laws_eqDyePartS.f k bt241.1 t231).bind fun t245 => (if t245 = true then (laws_FnExactMixRecipes.j0 k l0 l1 a2 t231 t232 t235 t238 bt241.1 bt241.2 (bt241.2 != t232)) else (laws_FnExactMixRecipes.j0 k l0 l1 a2 t231 t232 t235 t238 bt241.1 bt241.2 true)))) = some r := H
   have A15 := zA A150; clear A150
   replace H := Option.bind_eq_some_iff.mp H
   obtain ⟨⟨t241, t244⟩, A160, H⟩ := H
   replace H : ((laws_eqDyePartS.f k t241 t231).bind fun t245 => (if t245 = true then (laws_FnExactMixRecipes.j0 k l0 l1 a2 t231 t232 t235 t238 t241 t244 (t244 != t232)) else (laws_FnExactMixRecipes.j0 k l0 l1 a2 t231 t232 t235 t238 t241 t244 true))) = some r := H
   have A16 := zA A160; clear A160; have HC17 := zA H; clear H
   go_enter Tryd.func3, Tryd.ntmps3
   go_upto_region 12 with (first | ((with_reducible refine gate_callee (f := 4) rfl ?_); refine goesL_ (some 21) rfl rfl Tryd.func4 (by kernel_rfl) rfl #[.slice A0 l0.length c0, .int .i64 1048576] rfl (zM) ?_; (with_reducible refine (laws_szDyePartS.calls k _ _ l0 1048576 t223 _ ?side1 ?side2 A4.out).mono ?_); (case side1 => repeat (first | exact HR0.out | (with_reducible refine Kd.C_alloc ?_ _) | (with_reducible refine Kd.C_drewN ?_ _) | (with_reducible refine Kd.C_drew ?_))); (case side2 => exact HC0.out); rintro e w18 ⟨rfl, hb⟩; refine ⟨_, rfl, ?_⟩; have n0_ := zA (below_step (zW HB) hb); clear HB; have HB := n0_; clear n0_; (try clear hb); (try clear hb2); (try clear hk); (try clear hi)) | ((with_reducible refine gate_callee (f := 4) rfl ?_); refine goesL_ (some 26) rfl rfl Tryd.func4 (by kernel_rfl) rfl #[.slice A1 l1.length c1, .int .i64 t223] rfl (zM) ?_; (with_reducible refine (laws_szDyePartS.calls k _ _ l1 t223 t224 _ ?side1 ?side2 A7.out).mono ?_); (case side1 => repeat (first | exact (Kd.C_below HR1.out HB.out) | (with_reducible refine Kd.C_alloc ?_ _) | (with_reducible refine Kd.C_drewN ?_ _) | (with_reducible refine Kd.C_drew ?_))); (case side2 => exact HC1.out); rintro e w19 ⟨rfl, hb⟩; refine ⟨_, rfl, ?_⟩; have n0_ := zA (below_step (zW HB) hb); clear HB; have HB := n0_; clear n0_; (try clear hb); (try clear hb2); (try clear hk); (try clear hi)) | ((with_reducible refine gate_callee (f := 6) rfl ?_); refine goesL_ (some 31) rfl rfl Tryd.func6 (by kernel_rfl) rfl #[.slice A0 l0.length c0] rfl (zM) ?_; (with_reducible refine (laws_toDyePartS.calls k _ _ l0 t225 _ ?side1 ?side2 A11.out).mono ?_); (case side1 => repeat (first | exact (Kd.C_below HR0.out HB.out) | (with_reducible refine Kd.C_alloc ?_ _) | (with_reducible refine Kd.C_drewN ?_ _) | (with_reducible refine Kd.C_drew ?_))); (case side2 => exact HC0.out); rintro e w20 ⟨v226, rfl, ho0, hb⟩; refine ⟨_, rfl, ?_⟩; have n0_ := zA (Kd.R_lower ho0 (below_size (zW HB))); have n1_ := zA (below_step (zW HB) hb); clear HB; have HO227 := n0_; have HB := n1_; clear n0_ n1_; (try clear hb); (try clear hb2); (try clear hk); (try clear hi); (try clear ho0)) | ((with_reducible refine gate_callee (f := 6) rfl ?_); refine goesL_ (some 33) rfl rfl Tryd.func6 (by kernel_rfl) rfl #[.slice A1 l1.length c1] rfl (zM) ?_; (with_reducible refine (laws_toDyePartS.calls k _ _ l1 t228 _ ?side1 ?side2 A12.out).mono ?_); (case side1 => repeat (first | exact (Kd.C_below HR1.out HB.out) | (with_reducible refine Kd.C_alloc ?_ _) | (with_reducible refine Kd.C_drewN ?_ _) | (with_reducible refine Kd.C_drew ?_))); (case side2 => exact HC1.out); rintro e w21 ⟨v229, rfl, ho0, hb⟩; refine ⟨_, rfl, ?_⟩; have n0_ := zA (Kd.R_elder' (zR HO227) (Kd.R_base ho0) hb); have n1_ := zA (Kd.R_lower (Kd.R_new' ho0 (Kd.R_lt (zR HO227))) (below_size (zW HB))); have n2_ := zA (below_step (zW HB) hb); clear HO227; clear HB; have HO227 := n0_; have HO230 := n1_; have HB := n2_; clear n0_ n1_ n2_; (try clear hb); (try clear hb2); (try clear hk); (try clear hi); (try clear ho0); obtain ⟨Ao22, co22, eo22⟩ := Kd.R_slice HO227.out; subst eo22; obtain ⟨Ao23, co23, eo23⟩ := Kd.R_slice HO230.out; subst eo23) | ((with_reducible refine gate_callee (f := 5) rfl ?_); refine goesL_ (some 35) rfl rfl Tryd.func5 (by kernel_rfl) rfl #[.slice Ao22 t225.length co22, .slice Ao23 t228.length co23, .int .i64 a2] rfl (zM) ?_; (with_reducible refine (spec_MixRecipes.calls k _ _ t225 _ _ t228 a2 t231 t232 _ ?side1 ?side2 ?side3 ?side4 A13.out).mono ?_); (case side1 => repeat (first | exact (Kd.R_reads' HO227.out).2.2 | (with_reducible refine Kd.C_alloc ?_ _) | (with_reducible refine Kd.C_drewN ?_ _) | (with_reducible refine Kd.C_drew ?_))); (case side2 => exact (Kd.R_reads' HO227.out).2.1); (case side3 => repeat (first | exact (Kd.R_reads' HO230.out).2.2 | (with_reducible refine Kd.C_alloc ?_ _) | (with_reducible refine Kd.C_drewN ?_ _) | (with_reducible refine Kd.C_drew ?_))); (case side4 => exact (Kd.R_reads' HO230.out).2.1); rintro e w24 ⟨v233, rfl, ho0, hb⟩; refine ⟨_, rfl, ?_⟩; have n0_ := zA (Kd.R_elder' (zR HO227) (Kd.R_base ho0) hb); have n1_ := zA (Kd.R_elder' (zR HO230) (Kd.R_base ho0) hb); have n2_ := zA (Kd.R_lower (Kd.R_new' (Kd.R_new' ho0 (Kd.R_lt (zR HO227))) (Kd.R_lt (zR HO230))) (below_size (zW HB))); have n3_ := zA (below_step (zW HB) hb); clear HO227; clear HO230; clear HB; have HO227 := n0_; have HO230 := n1_; have HO234 := n2_; have HB := n3_; clear n0_ n1_ n2_ n3_; (try clear hb); (try clear hb2); (try clear hk); (try clear hi); (try clear ho0)) | ((with_reducible refine gate_callee (f := 6) rfl ?_); refine goesL_ (some 39) rfl rfl Tryd.func6 (by kernel_rfl) rfl #[.slice A0 l0.length c0] rfl (zM) ?_; (with_reducible refine (laws_toDyePartS.calls k _ _ l0 t235 _ ?side1 ?side2 A14.out).mono ?_); (case side1 => repeat (first | exact (Kd.C_below HR0.out HB.out) | (with_reducible refine Kd.C_alloc ?_ _) | (with_reducible refine Kd.C_drewN ?_ _) | (with_reducible refine Kd.C_drew ?_))); (case side2 => exact HC0.out); rintro e w25 ⟨v236, rfl, ho0, hb⟩; refine ⟨_, rfl, ?_⟩; have n0_ := zA (Kd.R_elder' (zR HO227) (Kd.R_base ho0) hb); have n1_ := zA (Kd.R_elder' (zR HO230) (Kd.R_base ho0) hb); have n2_ := zA (Kd.R_elder' (zR HO234) (Kd.R_base ho0) hb); have n3_ := zA (Kd.R_lower (Kd.R_new' (Kd.R_new' (Kd.R_new' ho0 (Kd.R_lt (zR HO227))) (Kd.R_lt (zR HO230))) (Kd.R_lt (zR HO234))) (below_size (zW HB))); have n4_ := zA (below_step (zW HB) hb); clear HO227; clear HO230; clear HO234; clear HB; have HO227 := n0_; have HO230 := n1_; have HO234 := n2_; have HO237 := n3_; have HB := n4_; clear n0_ n1_ n2_ n3_ n4_; (try clear hb); (try clear hb2); (try clear hk); (try clear hi); (try clear ho0)) | ((with_reducible refine gate_callee (f := 6) rfl ?_); refine goesL_ (some 41) rfl rfl Tryd.func6 (by kernel_rfl) rfl #[.slice A1 l1.length c1] rfl (zM) ?_; (with_reducible refine (laws_toDyePartS.calls k _ _ l1 t238 _ ?side1 ?side2 A15.out).mono ?_); (case side1 => repeat (first | exact (Kd.C_below HR1.out HB.out) | (with_reducible refine Kd.C_alloc ?_ _) | (with_reducible refine Kd.C_drewN ?_ _) | (with_reducible refine Kd.C_drew ?_))); (case side2 => exact HC1.out); rintro e w26 ⟨v239, rfl, ho0, hb⟩; refine ⟨_, rfl, ?_⟩; have n0_ := zA (Kd.R_elder' (zR HO227) (Kd.R_base ho0) hb); have n1_ := zA (Kd.R_elder' (zR HO230) (Kd.R_base ho0) hb); have n2_ := zA (Kd.R_elder' (zR HO234) (Kd.R_base ho0) hb); have n3_ := zA (Kd.R_elder' (zR HO237) (Kd.R_base ho0) hb); have n4_ := zA (Kd.R_lower (Kd.R_new' (Kd.R_new' (Kd.R_new' (Kd.R_new' ho0 (Kd.R_lt (zR HO227))) (Kd.R_lt (zR HO230))) (Kd.R_lt (zR HO234))) (Kd.R_lt (zR HO237))) (below_size (zW HB))); have n5_ := zA (below_step (zW HB) hb); clear HO227; clear HO230; clear HO234; clear HO237; clear HB; have HO227 := n0_; have HO230 := n1_; have HO234 := n2_; have HO237 := n3_; have HO240 := n4_; have HB := n5_; clear n0_ n1_ n2_ n3_ n4_ n5_; (try clear hb); (try clear hb2); (try clear hk); (try clear hi); (try clear ho0); obtain ⟨Ao27, co27, eo27⟩ := Kd.R_slice HO237.out; subst eo27; obtain ⟨Ao28, co28, eo28⟩ := Kd.R_slice HO240.out; subst eo28) | ((with_reducible refine gate_callee (f := 7) rfl ?_); refine goesL_ (some 46) rfl rfl Tryd.func7 (by kernel_rfl) rfl #[.slice Ao27 t235.length co27, .slice Ao28 t238.length co28, .int .i64 a2] rfl (zM) ?_; (with_reducible refine (impl_MixRecipes.calls k (fun k_ => some k_ = (.slice Ao27 t235.length co27 : Value).ownBlock) _ _ t235 (fun k_ => some k_ = (.slice Ao28 t238.length co28 : Value).ownBlock) _ _ t238 a2 t241 t244 _ ?side1 ?side2 A16.out).mono ?_); (case side1 => exact Kd.R_V (Kd.R_tight rfl (HO237.out))); (case side2 => exact Kd.R_V (Kd.R_tight rfl (HO240.out))); rintro e w29 ⟨v242, rfl, ho0, hb⟩; refine ⟨_, rfl, ?_⟩; have n0_ := zA (Kd.R_elder' (zR HO227) (Kd.R_base ho0) hb); have n1_ := zA (Kd.R_elder' (zR HO230) (Kd.R_base ho0) hb); have n2_ := zA (Kd.R_elder' (zR HO234) (Kd.R_base ho0) hb); have n3_ := zA (Kd.R_elder' (zR HO237) (Kd.R_base ho0) hb); have n4_ := zA (Kd.R_elder' (zR HO240) (Kd.R_base ho0) hb); have n5_ := zA (Kd.R_lower (Kd.R_new' (Kd.R_new' (Kd.R_new' (Kd.R_new' (Kd.R_new' (Kd.R_mono (ok' := fun k_ => True) ho0 (fun _ hk_ => trivial)) (Kd.R_lt (zR HO227))) (Kd.R_lt (zR HO230))) (Kd.R_lt (zR HO234))) (Kd.R_lt (zR HO237))) (Kd.R_lt (zR HO240))) (below_size (zW HB))); have n6_ := zA (below_step (zW HB) hb); clear HO227; clear HO230; clear HO234; clear HO237; clear HO240; clear HB; have HO227 := n0_; have HO230 := n1_; have HO234 := n2_; have HO237 := n3_; have HO240 := n4_; have HO243 := n5_; have HB := n6_; clear n0_ n1_ n2_ n3_ n4_ n5_ n6_; (try clear hb); (try clear hb2); (try clear hk); (try clear hi); (try clear ho0)))
   (try simp only [Act.put, List.setIfInBounds_toArray, List.set_cons_zero, List.set_cons_succ])
   go_cut [57] (fun v57 wc => ∃ (kq : Nat) (x57_16 : Bool), v57 = .bool x57_16 ∧ Aside0 (laws_FnExactMixRecipes.j0 kq l0 l1 a2 t231 t232 t235 t238 t241 t244 x57_16 = some r) ∧ Aside0 (kq ≤ k) ∧ Aside0 (Kd.R k36 36 wc w.heap.size (fun k_ => some k_ ≠ ((.slice Ao27 t235.length co27) : Value).ownBlock ∧ some k_ ≠ ((.slice Ao28 t238.length co28) : Value).ownBlock ∧ some k_ ≠ (v242 : Value).ownBlock) v233 t231) ∧ Aside0 (Kd.R k36 36 wc w.heap.size (fun k_ => some k_ ≠ (v233 : Value).ownBlock ∧ some k_ ≠ ((.slice Ao28 t238.length co28) : Value).ownBlock ∧ some k_ ≠ (v242 : Value).ownBlock) (.slice Ao27 t235.length co27) t235) ∧ Aside0 (Kd.R k36 36 wc w.heap.size (fun k_ => some k_ ≠ (v233 : Value).ownBlock ∧ some k_ ≠ ((.slice Ao27 t235.length co27) : Value).ownBlock ∧ some k_ ≠ (v242 : Value).ownBlock) (.slice Ao28 t238.length co28) t238) ∧ Aside0 (Kd.R k36 36 wc w.heap.size (fun k_ => some k_ ≠ (v233 : Value).ownBlock ∧ some k_ ≠ ((.slice Ao27 t235.length co27) : Value).ownBlock ∧ some k_ ≠ ((.slice Ao28 t238.length co28) : Value).ownBlock) v242 t241) ∧ Aside0 (Below w.heap.size w wc))
   case first =>
    have H := HC17.out; clear HC17
    replace H := Option.bind_eq_some_iff.mp H
    obtain ⟨t245, A300, H⟩ := H
    replace H : (if t245 = true then (laws_FnExactMixRecipes.j0 k l0 l1 a2 t231 t232 t235 t238 t241 t244 (t244 != t232)) else (laws_FnExactMixRecipes.j0 k l0 l1 a2 t231 t232 t235 t238 t241 t244 true)) = some r := H
    have A30 := zA A300; clear A300
    by_cases c31 : t245 = true
    ·subst c31
     have H1 : (laws_FnExactMixRecipes.j0 k l0 l1 a2 t231 t232 t235 t238 t241 t244 (t244 != t232)) = some r := by rw [if_pos rfl] at H; exact H
     clear H; have H := H1; clear H1; have H' := zA H; clear H
     obtain ⟨Ao32, co32, eo32⟩ := Kd.R_slice HO243.out
     subst eo32
     obtain ⟨Ao33, co33, eo33⟩ := Kd.R_slice HO234.out
     subst eo33
     go_wp2_with (first | ((with_reducible refine gate_callee (f := 8) rfl ?_); refine goesL_ (some 51) rfl rfl Tryd.func8 (by kernel_rfl) rfl #[.slice Ao32 t241.length co32, .slice Ao33 t231.length co33] rfl (zM) ?_; (with_reducible refine (laws_eqDyePartS.calls k _ _ t241 _ _ t231 true _ ?side1 ?side2 ?side3 ?side4 A30.out).mono ?_); (case side1 => repeat (first | exact (Kd.R_reads' HO243.out).2.2 | (with_reducible refine Kd.C_alloc ?_ _) | (with_reducible refine Kd.C_drewN ?_ _) | (with_reducible refine Kd.C_drew ?_))); (case side2 => exact (Kd.R_reads' HO243.out).2.1); (case side3 => repeat (first | exact (Kd.R_reads' HO234.out).2.2 | (with_reducible refine Kd.C_alloc ?_ _) | (with_reducible refine Kd.C_drewN ?_ _) | (with_reducible refine Kd.C_drew ?_))); (case side4 => exact (Kd.R_reads' HO234.out).2.1); rintro e w34 ⟨rfl, hb⟩; refine ⟨_, rfl, ?_⟩; have n0_ := zA (Kd.R_below (zR HO227) hb); have n1_ := zA (Kd.R_below (zR HO230) hb); have n2_ := zA (Kd.R_below (zR HO234) hb); have n3_ := zA (Kd.R_below (zR HO237) hb); have n4_ := zA (Kd.R_below (zR HO240) hb); have n5_ := zA (Kd.R_below (zR HO243) hb); have n6_ := zA (below_step (zW HB) hb); clear HO227; clear HO230; clear HO234; clear HO237; clear HO240; clear HO243; clear HB; have HO227 := n0_; have HO230 := n1_; have HO234 := n2_; have HO237 := n3_; have HO240 := n4_; have HO243 := n5_; have HB := n6_; clear n0_ n1_ n2_ n3_ n4_ n5_ n6_; (try clear hb); (try clear hb2); (try clear hk); (try clear hi)))
     go_meet
     case rel => exact ⟨_, ((t244 != t232)), (by first | rfl | (simp; done) | (simp [*]; done)), H', ⟨by first | omega | exact Nat.le_refl _⟩, ⟨by (with_reducible repeat (first | apply Kd.R_alloc | apply Kd.R_drewN | apply Kd.R_drew)); exact Kd.R_mono HO234.out (fun _ hk => ⟨hk.1.1.2, ⟨hk.1.2, hk.2⟩⟩)⟩, ⟨by (with_reducible repeat (first | apply Kd.R_alloc | apply Kd.R_drewN | apply Kd.R_drew)); exact Kd.R_mono HO237.out (fun _ hk => ⟨hk.1.1.2, ⟨hk.1.2, hk.2⟩⟩)⟩, ⟨by (with_reducible repeat (first | apply Kd.R_alloc | apply Kd.R_drewN | apply Kd.R_drew)); exact Kd.R_mono HO240.out (fun _ hk => ⟨hk.1.1.2, ⟨hk.1.2, hk.2⟩⟩)⟩, ⟨by (with_reducible repeat (first | apply Kd.R_alloc | apply Kd.R_drewN | apply Kd.R_drew)); exact Kd.R_mono HO243.out (fun _ hk => ⟨hk.1.1.2, ⟨hk.1.2, hk.2⟩⟩)⟩, ⟨by repeat (first | (with_reducible first | exact HB.out | apply below_alloc | apply pw_below_drewN | apply below_drew1) | exact HB.out)⟩⟩
    ·replace c31 := Bool.eq_false_iff.mpr c31
     subst c31
     have H1 : (laws_FnExactMixRecipes.j0 k l0 l1 a2 t231 t232 t235 t238 t241 t244 true) = some r := by rw [if_neg (show ¬ (false = true) by decide)] at H; exact H
     clear H; have H := H1; clear H1; have H' := zA H; clear H
     obtain ⟨Ao35, co35, eo35⟩ := Kd.R_slice HO243.out
     subst eo35
     obtain ⟨Ao36, co36, eo36⟩ := Kd.R_slice HO234.out
     subst eo36
     go_wp2_with (first | ((with_reducible refine gate_callee (f := 8) rfl ?_); refine goesL_ (some 51) rfl rfl Tryd.func8 (by kernel_rfl) rfl #[.slice Ao35 t241.length co35, .slice Ao36 t231.length co36] rfl (zM) ?_; (with_reducible refine (laws_eqDyePartS.calls k _ _ t241 _ _ t231 false _ ?side1 ?side2 ?side3 ?side4 A30.out).mono ?_); (case side1 => repeat (first | exact (Kd.R_reads' HO243.out).2.2 | (with_reducible refine Kd.C_alloc ?_ _) | (with_reducible refine Kd.C_drewN ?_ _) | (with_reducible refine Kd.C_drew ?_))); (case side2 => exact (Kd.R_reads' HO243.out).2.1); (case side3 => repeat (first | exact (Kd.R_reads' HO234.out).2.2 | (with_reducible refine Kd.C_alloc ?_ _) | (with_reducible refine Kd.C_drewN ?_ _) | (with_reducible refine Kd.C_drew ?_))); (case side4 => exact (Kd.R_reads' HO234.out).2.1); rintro e w37 ⟨rfl, hb⟩; refine ⟨_, rfl, ?_⟩; have n0_ := zA (Kd.R_below (zR HO227) hb); have n1_ := zA (Kd.R_below (zR HO230) hb); have n2_ := zA (Kd.R_below (zR HO234) hb); have n3_ := zA (Kd.R_below (zR HO237) hb); have n4_ := zA (Kd.R_below (zR HO240) hb); have n5_ := zA (Kd.R_below (zR HO243) hb); have n6_ := zA (below_step (zW HB) hb); clear HO227; clear HO230; clear HO234; clear HO237; clear HO240; clear HO243; clear HB; have HO227 := n0_; have HO230 := n1_; have HO234 := n2_; have HO237 := n3_; have HO240 := n4_; have HO243 := n5_; have HB := n6_; clear n0_ n1_ n2_ n3_ n4_ n5_ n6_; (try clear hb); (try clear hb2); (try clear hk); (try clear hi)))
     go_meet
     case rel => exact ⟨_, (true), (by first | rfl | (simp; done) | (simp [*]; done)), H', ⟨by first | omega | exact Nat.le_refl _⟩, ⟨by (with_reducible repeat (first | apply Kd.R_alloc | apply Kd.R_drewN | apply Kd.R_drew)); exact Kd.R_mono HO234.out (fun _ hk => ⟨hk.1.1.2, ⟨hk.1.2, hk.2⟩⟩)⟩, ⟨by (with_reducible repeat (first | apply Kd.R_alloc | apply Kd.R_drewN | apply Kd.R_drew)); exact Kd.R_mono HO237.out (fun _ hk => ⟨hk.1.1.2, ⟨hk.1.2, hk.2⟩⟩)⟩, ⟨by (with_reducible repeat (first | apply Kd.R_alloc | apply Kd.R_drewN | apply Kd.R_drew)); exact Kd.R_mono HO240.out (fun _ hk => ⟨hk.1.1.2, ⟨hk.1.2, hk.2⟩⟩)⟩, ⟨by (with_reducible repeat (first | apply Kd.R_alloc | apply Kd.R_drewN | apply Kd.R_drew)); exact Kd.R_mono HO243.out (fun _ hk => ⟨hk.1.1.2, ⟨hk.1.2, hk.2⟩⟩)⟩, ⟨by repeat (first | (with_reducible first | exact HB.out | apply below_alloc | apply pw_below_drewN | apply below_drew1) | exact HB.out)⟩⟩
   case rest =>
    clear HC17
    try clear c1; try clear p2; try clear c3; try clear c4; try clear c5; try clear c5b0; try clear c6; try clear c7; try clear c8; try clear c8b0; try clear c31
    obtain ⟨kq, x57_16, rfl, HA, HJ16, HO_8, HO_10, HO_11, HO_12, HB⟩ := hcut
    cases kq with
    | zero => exact absurd HA.out (by simp [laws_FnExactMixRecipes.j0])
    | succ kj16 =>
     have H := HA.out; clear HA
     simp only [laws_FnExactMixRecipes.j0] at H
     by_cases c38 : x57_16 = true
     ·subst c38
      have H1 : (some false) = some r := by rw [if_pos rfl] at H; exact H
      clear H; have H := H1; clear H1
      obtain rfl := Option.some.inj H
      go_wp2
      go_ret
      exact ⟨by first | rfl | (simp [errW_none, errW_some] <;> rfl) | (simp [*, errW_none, errW_some] <;> rfl), by repeat (first | (with_reducible first | exact HB.out | apply below_alloc | apply pw_below_drewN | apply below_drew1) | exact HB.out)⟩
     ·replace c38 := Bool.eq_false_iff.mpr c38
      subst c38
      have H1 : ((laws_toDyePartS.f kj16 l0).bind fun t246 => ((laws_eqDyePartS.f kj16 t235 t246).bind fun t249 => (if t249 = true then ((laws_toDyePartS.f kj16 l1).bind fun t250 => ((laws_eqDyePartS.f kj16 t238 t250).bind fun t253 => (if t253 = true then ((laws_markDyePartS.f kj16 t235 1).bind fun bt254 => ((laws_markDyePartS.f kj16 t238 bt254.1).bind fun bt256 => (if bt256.1 < 0 then (laws_FnExactMixRecipes.j1 kj16 l0 l1 a2 t231 t232 t241 true) else ((laws_eqDyePartS.f kj16 t241 t231).bind fun t258 => (if t258 = true then (laws_FnExactMixRecipes.j1 kj16 l0 l1 a2 t231 t232 t241 (t244 != t232)) else (laws_FnExactMixRecipes.j1 kj16 l0 l1 a2 t231 t232 t241 true)))))) else (some false)))) else (some false)))) = some r := by rw [if_neg (show ¬ (false = true) by decide)] at H; exact H
      clear H; have H := H1; clear H1
      replace H := Option.bind_eq_some_iff.mp H
      obtain ⟨t246, A390, H⟩ := H
      replace H : ((laws_eqDyePartS.f kj16 t235 t246).bind fun t249 => (if t249 = true then ((laws_toDyePartS.f kj16 l1).bind fun t250 => ((laws_eqDyePartS.f kj16 t238 t250).bind fun t253 => (if t253 = true then ((laws_markDyePartS.f kj16 t235 1).bind fun bt254 => ((laws_markDyePartS.f kj16 t238 bt254.1).bind fun bt256 => (if bt256.1 < 0 then (laws_FnExactMixRecipes.j1 kj16 l0 l1 a2 t231 t232 t241 true) else ((laws_eqDyePartS.f kj16 t241 t231).bind fun t258 => (if t258 = true then (laws_FnExactMixRecipes.j1 kj16 l0 l1 a2 t231 t232 t241 (t244 != t232)) else (laws_FnExactMixRecipes.j1 kj16 l0 l1 a2 t231 t232 t241 true)))))) else (some false)))) else (some false))) = some r := H
      have A39 := zA A390; clear A390
      replace H := Option.bind_eq_some_iff.mp H
      obtain ⟨t249, A400, H⟩ := H
      replace H : (if t249 = true then ((laws_toDyePartS.f kj16 l1).bind fun t250 => ((laws_eqDyePartS.f kj16 t238 t250).bind fun t253 => (if t253 = true then ((laws_markDyePartS.f kj16 t235 1).bind fun bt254 => ((laws_markDyePartS.f kj16 t238 bt254.1).bind fun bt256 => (if bt256.1 < 0 then (laws_FnExactMixRecipes.j1 kj16 l0 l1 a2 t231 t232 t241 true) else ((laws_eqDyePartS.f kj16 t241 t231).bind fun t258 => (if t258 = true then (laws_FnExactMixRecipes.j1 kj16 l0 l1 a2 t231 t232 t241 (t244 != t232)) else (laws_FnExactMixRecipes.j1 kj16 l0 l1 a2 t231 t232 t241 true)))))) else (some false)))) else (some false)) = some r := H
      have A40 := zA A400; clear A400
      by_cases c41 : t249 = true
      ·subst c41
       have H1 : ((laws_toDyePartS.f kj16 l1).bind fun t250 => ((laws_eqDyePartS.f kj16 t238 t250).bind fun t253 => (if t253 = true then ((laws_markDyePartS.f kj16 t235 1).bind fun bt254 => ((laws_markDyePartS.f kj16 t238 bt254.1).bind fun bt256 => (if bt256.1 < 0 then (laws_FnExactMixRecipes.j1 kj16 l0 l1 a2 t231 t232 t241 true) else ((laws_eqDyePartS.f kj16 t241 t231).bind fun t258 => (if t258 = true then (laws_FnExactMixRecipes.j1 kj16 l0 l1 a2 t231 t232 t241 (t244 != t232)) else (laws_FnExactMixRecipes.j1 kj16 l0 l1 a2 t231 t232 t241 true)))))) else (some false)))) = some r := by rw [if_pos rfl] at H; exact H
       clear H; have H := H1; clear H1
       replace H := Option.bind_eq_some_iff.mp H
       obtain ⟨t250, A420, H⟩ := H
       replace H : ((laws_eqDyePartS.f kj16 t238 t250).bind fun t253 => (if t253 = true then ((laws_markDyePartS.f kj16 t235 1).bind fun bt254 => ((laws_markDyePartS.f kj16 t238 bt254.1).bind fun bt256 => (if bt256.1 < 0 then (laws_FnExactMixRecipes.j1 kj16 l0 l1 a2 t231 t232 t241 true) else ((laws_eqDyePartS.f kj16 t241 t231).bind fun t258 => (if t258 = true then (laws_FnExactMixRecipes.j1 kj16 l0 l1 a2 t231 t232 t241 (t244 != t232)) else (laws_FnExactMixRecipes.j1 kj16 l0 l1 a2 t231 t232 t241 true)))))) else (some false))) = some r := H
       have A42 := zA A420; clear A420
       replace H := Option.bind_eq_some_iff.mp H
       obtain ⟨t253, A430, H⟩ := H
       replace H : (if t253 = true then ((laws_markDyePartS.f kj16 t235 1).bind fun bt254 => ((laws_markDyePartS.f kj16 t238 bt254.1).bind fun bt256 => (if bt256.1 < 0 then (laws_FnExactMixRecipes.j1 kj16 l0 l1 a2 t231 t232 t241 true) else ((laws_eqDyePartS.f kj16 t241 t231).bind fun t258 => (if t258 = true then (laws_FnExactMixRecipes.j1 kj16 l0 l1 a2 t231 t232 t241 (t244 != t232)) else (laws_FnExactMixRecipes.j1 kj16 l0 l1 a2 t231 t232 t241 true)))))) else (some false)) = some r := H
       have A43 := zA A430; clear A430
       by_cases c44 : t253 = true
       ·subst c44
        have H1 : ((laws_markDyePartS.f kj16 t235 1).bind fun bt254 => ((laws_markDyePartS.f kj16 t238 bt254.1).bind fun bt256 => (if bt256.1 < 0 then (laws_FnExactMixRecipes.j1 kj16 l0 l1 a2 t231 t232 t241 true) else ((laws_eqDyePartS.f kj16 t241 t231).bind fun t258 => (if t258 = true then (laws_FnExactMixRecipes.j1 kj16 l0 l1 a2 t231 t232 t241 (t244 != t232)) else (laws_FnExactMixRecipes.j1 kj16 l0 l1 a2 t231 t232 t241 true)))))) = some r := by rw [if_pos rfl] at H; exact H
        clear H; have H := H1; clear H1
        replace H := Option.bind_eq_some_iff.mp H
        obtain ⟨⟨t254, t255⟩, A450, H⟩ := H
        replace H : ((laws_markDyePartS.f kj16 t238 t254).bind fun bt256 => (if bt256.1 < 0 then (laws_FnExactMixRecipes.j1 kj16 l0 l1 a2 t231 t232 t241 true) else ((laws_eqDyePartS.f kj16 t241 t231).bind fun t258 => (if t258 = true then (laws_FnExactMixRecipes.j1 kj16 l0 l1 a2 t231 t232 t241 (t244 != t232)) else (laws_FnExactMixRecipes.j1 kj16 l0 l1 a2 t231 t232 t241 true))))) = some r := H
        have A45 := zA A450; clear A450
        replace H := Option.bind_eq_some_iff.mp H
        obtain ⟨⟨t256, t257⟩, A460, H⟩ := H
        replace H : (if t256 < 0 then (laws_FnExactMixRecipes.j1 kj16 l0 l1 a2 t231 t232 t241 true) else ((laws_eqDyePartS.f kj16 t241 t231).bind fun t258 => (if t258 = true then (laws_FnExactMixRecipes.j1 kj16 l0 l1 a2 t231 t232 t241 (t244 != t232)) else (laws_FnExactMixRecipes.j1 kj16 l0 l1 a2 t231 t232 t241 true)))) = some r := H
        have A46 := zA A460; clear A460; have HC47 := zA H; clear H
        go_upto_region 21 with (first | ((with_reducible refine gate_callee (f := 6) rfl ?_); refine goesL_ (some 60) rfl rfl Tryd.func6 (by kernel_rfl) rfl #[.slice A0 l0.length c0] rfl (zM) ?_; (with_reducible refine (laws_toDyePartS.calls kj16 _ _ l0 t246 _ ?side1 ?side2 A39.out).mono ?_); (case side1 => repeat (first | exact (Kd.C_below HR0.out HB.out) | (with_reducible refine Kd.C_alloc ?_ _) | (with_reducible refine Kd.C_drewN ?_ _) | (with_reducible refine Kd.C_drew ?_))); (case side2 => exact HC0.out); rintro e w48 ⟨v247, rfl, ho0, hb⟩; refine ⟨_, rfl, ?_⟩; have n0_ := zA (Kd.R_elder' (zR HO_8) (Kd.R_base ho0) hb); have n1_ := zA (Kd.R_elder' (zR HO_10) (Kd.R_base ho0) hb); have n2_ := zA (Kd.R_elder' (zR HO_11) (Kd.R_base ho0) hb); have n3_ := zA (Kd.R_elder' (zR HO_12) (Kd.R_base ho0) hb); have n4_ := zA (Kd.R_lower (Kd.R_new' (Kd.R_new' (Kd.R_new' (Kd.R_new' ho0 (Kd.R_lt (zR HO_8))) (Kd.R_lt (zR HO_10))) (Kd.R_lt (zR HO_11))) (Kd.R_lt (zR HO_12))) (below_size (zW HB))); have n5_ := zA (below_step (zW HB) hb); clear HO_8; clear HO_10; clear HO_11; clear HO_12; clear HB; have HO_8 := n0_; have HO_10 := n1_; have HO_11 := n2_; have HO_12 := n3_; have HO248 := n4_; have HB := n5_; clear n0_ n1_ n2_ n3_ n4_ n5_; (try clear hb); (try clear hb2); (try clear hk); (try clear hi); (try clear ho0); obtain ⟨Ao49, co49, eo49⟩ := Kd.R_slice HO248.out; subst eo49) | ((with_reducible refine gate_callee (f := 8) rfl ?_); refine goesL_ (some 61) rfl rfl Tryd.func8 (by kernel_rfl) rfl #[.slice Ao27 t235.length co27, .slice Ao49 t246.length co49] rfl (zM) ?_; (with_reducible refine (laws_eqDyePartS.calls kj16 _ _ t235 _ _ t246 true _ ?side1 ?side2 ?side3 ?side4 A40.out).mono ?_); (case side1 => repeat (first | exact (Kd.R_reads' HO_10.out).2.2 | (with_reducible refine Kd.C_alloc ?_ _) | (with_reducible refine Kd.C_drewN ?_ _) | (with_reducible refine Kd.C_drew ?_))); (case side2 => exact (Kd.R_reads' HO_10.out).2.1); (case side3 => repeat (first | exact (Kd.R_reads' HO248.out).2.2 | (with_reducible refine Kd.C_alloc ?_ _) | (with_reducible refine Kd.C_drewN ?_ _) | (with_reducible refine Kd.C_drew ?_))); (case side4 => exact (Kd.R_reads' HO248.out).2.1); rintro e w50 ⟨rfl, hb⟩; refine ⟨_, rfl, ?_⟩; have n0_ := zA (Kd.R_below (zR HO_8) hb); have n1_ := zA (Kd.R_below (zR HO_10) hb); have n2_ := zA (Kd.R_below (zR HO_11) hb); have n3_ := zA (Kd.R_below (zR HO_12) hb); have n4_ := zA (Kd.R_below (zR HO248) hb); have n5_ := zA (below_step (zW HB) hb); clear HO_8; clear HO_10; clear HO_11; clear HO_12; clear HO248; clear HB; have HO_8 := n0_; have HO_10 := n1_; have HO_11 := n2_; have HO_12 := n3_; have HO248 := n4_; have HB := n5_; clear n0_ n1_ n2_ n3_ n4_ n5_; (try clear hb); (try clear hb2); (try clear hk); (try clear hi)) | ((with_reducible refine gate_callee (f := 6) rfl ?_); refine goesL_ (some 65) rfl rfl Tryd.func6 (by kernel_rfl) rfl #[.slice A1 l1.length c1] rfl (zM) ?_; (with_reducible refine (laws_toDyePartS.calls kj16 _ _ l1 t250 _ ?side1 ?side2 A42.out).mono ?_); (case side1 => repeat (first | exact (Kd.C_below HR1.out HB.out) | (with_reducible refine Kd.C_alloc ?_ _) | (with_reducible refine Kd.C_drewN ?_ _) | (with_reducible refine Kd.C_drew ?_))); (case side2 => exact HC1.out); rintro e w51 ⟨v251, rfl, ho0, hb⟩; refine ⟨_, rfl, ?_⟩; have n0_ := zA (Kd.R_elder' (zR HO_8) (Kd.R_base ho0) hb); have n1_ := zA (Kd.R_elder' (zR HO_10) (Kd.R_base ho0) hb); have n2_ := zA (Kd.R_elder' (zR HO_11) (Kd.R_base ho0) hb); have n3_ := zA (Kd.R_elder' (zR HO_12) (Kd.R_base ho0) hb); have n4_ := zA (Kd.R_elder' (zR HO248) (Kd.R_base ho0) hb); have n5_ := zA (Kd.R_lower (Kd.R_new' (Kd.R_new' (Kd.R_new' (Kd.R_new' (Kd.R_new' ho0 (Kd.R_lt (zR HO_8))) (Kd.R_lt (zR HO_10))) (Kd.R_lt (zR HO_11))) (Kd.R_lt (zR HO_12))) (Kd.R_lt (zR HO248))) (below_size (zW HB))); have n6_ := zA (below_step (zW HB) hb); clear HO_8; clear HO_10; clear HO_11; clear HO_12; clear HO248; clear HB; have HO_8 := n0_; have HO_10 := n1_; have HO_11 := n2_; have HO_12 := n3_; have HO248 := n4_; have HO252 := n5_; have HB := n6_; clear n0_ n1_ n2_ n3_ n4_ n5_ n6_; (try clear hb); (try clear hb2); (try clear hk); (try clear hi); (try clear ho0); obtain ⟨Ao52, co52, eo52⟩ := Kd.R_slice HO252.out; subst eo52) | ((with_reducible refine gate_callee (f := 8) rfl ?_); refine goesL_ (some 66) rfl rfl Tryd.func8 (by kernel_rfl) rfl #[.slice Ao28 t238.length co28, .slice Ao52 t250.length co52] rfl (zM) ?_; (with_reducible refine (laws_eqDyePartS.calls kj16 _ _ t238 _ _ t250 true _ ?side1 ?side2 ?side3 ?side4 A43.out).mono ?_); (case side1 => repeat (first | exact (Kd.R_reads' HO_11.out).2.2 | (with_reducible refine Kd.C_alloc ?_ _) | (with_reducible refine Kd.C_drewN ?_ _) | (with_reducible refine Kd.C_drew ?_))); (case side2 => exact (Kd.R_reads' HO_11.out).2.1); (case side3 => repeat (first | exact (Kd.R_reads' HO252.out).2.2 | (with_reducible refine Kd.C_alloc ?_ _) | (with_reducible refine Kd.C_drewN ?_ _) | (with_reducible refine Kd.C_drew ?_))); (case side4 => exact (Kd.R_reads' HO252.out).2.1); rintro e w53 ⟨rfl, hb⟩; refine ⟨_, rfl, ?_⟩; have n0_ := zA (Kd.R_below (zR HO_8) hb); have n1_ := zA (Kd.R_below (zR HO_10) hb); have n2_ := zA (Kd.R_below (zR HO_11) hb); have n3_ := zA (Kd.R_below (zR HO_12) hb); have n4_ := zA (Kd.R_below (zR HO248) hb); have n5_ := zA (Kd.R_below (zR HO252) hb); have n6_ := zA (below_step (zW HB) hb); clear HO_8; clear HO_10; clear HO_11; clear HO_12; clear HO248; clear HO252; clear HB; have HO_8 := n0_; have HO_10 := n1_; have HO_11 := n2_; have HO_12 := n3_; have HO248 := n4_; have HO252 := n5_; have HB := n6_; clear n0_ n1_ n2_ n3_ n4_ n5_ n6_; (try clear hb); (try clear hb2); (try clear hk); (try clear hi)) | ((with_reducible refine gate_callee (f := 9) rfl ?_); refine goesL_ (some 70) rfl rfl Tryd.func9 (by kernel_rfl) rfl #[.slice Ao27 t235.length co27, .int .i64 1] rfl (zM) ?_; (with_reducible refine (laws_markDyePartS.calls kj16 (fun k_ => some k_ = (.slice Ao27 t235.length co27 : Value).ownBlock) (.slice Ao27 t235.length co27) t235 1 t254 t255 w _ ?side1 ?side2 A45.out).mono ?_); (case side1 => repeat (first | (with_reducible first | exact HB.out | apply below_alloc | apply pw_below_drewN | apply below_drew1) | exact HB.out)); (case side2 => exact Kd.R_tight rfl HO_10.out); rintro e w54 ⟨rfl, hy0, hb, hkp⟩; refine ⟨_, rfl, ?_⟩; have n0_ := zA (Kd.R_mono (ok' := fun k_ => some k_ ≠ (.slice Ao27 t235.length co27 : Value).ownBlock ∧ some k_ ≠ (.slice Ao28 t238.length co28 : Value).ownBlock ∧ some k_ ≠ (v242 : Value).ownBlock ∧ some k_ ≠ (.slice Ao49 t246.length co49 : Value).ownBlock ∧ some k_ ≠ (.slice Ao52 t250.length co52 : Value).ownBlock) (Kd.R_keptB (HO_8.out) hkp (fun k_ hk_ hs_ => (hk_.1.1.1) hs_)) (fun k_ hk_ => ⟨hk_.1.1.1.1, hk_.1.1.1.2.1, hk_.1.1.1.2.2, hk_.1.1.2, hk_.1.2⟩)); have n1_ := zA (Kd.R_reok rfl hy0 (fun k_ e_ => HO_10.out.1 k_ e_)); have n2_ := zA (Kd.R_mono (ok' := fun k_ => some k_ ≠ (v233 : Value).ownBlock ∧ some k_ ≠ (.slice Ao27 t235.length co27 : Value).ownBlock ∧ some k_ ≠ (v242 : Value).ownBlock ∧ some k_ ≠ (.slice Ao49 t246.length co49 : Value).ownBlock ∧ some k_ ≠ (.slice Ao52 t250.length co52 : Value).ownBlock) (Kd.R_keptB (HO_11.out) hkp (fun k_ hk_ hs_ => (hk_.1.1.2.1) hs_)) (fun k_ hk_ => ⟨hk_.1.1.1.1, hk_.1.1.1.2.1, hk_.1.1.1.2.2, hk_.1.1.2, hk_.1.2⟩)); have n3_ := zA (Kd.R_mono (ok' := fun k_ => some k_ ≠ (v233 : Value).ownBlock ∧ some k_ ≠ (.slice Ao27 t235.length co27 : Value).ownBlock ∧ some k_ ≠ (.slice Ao28 t238.length co28 : Value).ownBlock ∧ some k_ ≠ (.slice Ao49 t246.length co49 : Value).ownBlock ∧ some k_ ≠ (.slice Ao52 t250.length co52 : Value).ownBlock) (Kd.R_keptB (HO_12.out) hkp (fun k_ hk_ hs_ => (hk_.1.1.2.1) hs_)) (fun k_ hk_ => ⟨hk_.1.1.1.1, hk_.1.1.1.2.1, hk_.1.1.1.2.2, hk_.1.1.2, hk_.1.2⟩)); have n4_ := zA (Kd.R_mono (ok' := fun k_ => some k_ ≠ (v233 : Value).ownBlock ∧ some k_ ≠ (.slice Ao27 t235.length co27 : Value).ownBlock ∧ some k_ ≠ (.slice Ao28 t238.length co28 : Value).ownBlock ∧ some k_ ≠ (v242 : Value).ownBlock ∧ some k_ ≠ (.slice Ao52 t250.length co52 : Value).ownBlock) (Kd.R_keptB (HO248.out) hkp (fun k_ hk_ hs_ => (hk_.1.1.1.2) hs_)) (fun k_ hk_ => ⟨hk_.1.1.1.1.1.2, hk_.1.1.1.1.2, hk_.1.1.1.2, hk_.1.1.2, hk_.1.2⟩)); have n5_ := zA (Kd.R_mono (ok' := fun k_ => some k_ ≠ (v233 : Value).ownBlock ∧ some k_ ≠ (.slice Ao27 t235.length co27 : Value).ownBlock ∧ some k_ ≠ (.slice Ao28 t238.length co28 : Value).ownBlock ∧ some k_ ≠ (v242 : Value).ownBlock ∧ some k_ ≠ (.slice Ao49 t246.length co49 : Value).ownBlock) (Kd.R_keptB (HO252.out) hkp (fun k_ hk_ hs_ => (hk_.1.1.1.2) hs_)) (fun k_ hk_ => ⟨hk_.1.1.1.1.1.2, hk_.1.1.1.1.2, hk_.1.1.1.2, hk_.1.1.2, hk_.1.2⟩)); have n6_ := zA (hb); clear HO_8; clear HO_10; clear HO_11; clear HO_12; clear HO248; clear HO252; clear HB; have HO_8 := n0_; have HO_10 := n1_; have HO_11 := n2_; have HO_12 := n3_; have HO248 := n4_; have HO252 := n5_; have HB := n6_; clear n0_ n1_ n2_ n3_ n4_ n5_ n6_; (try clear hb); (try clear hkp); (try clear hy0)) | ((with_reducible refine gate_callee (f := 9) rfl ?_); refine goesL_ (some 73) rfl rfl Tryd.func9 (by kernel_rfl) rfl #[.slice Ao28 t238.length co28, .int .i64 t254] rfl (zM) ?_; (with_reducible refine (laws_markDyePartS.calls kj16 (fun k_ => some k_ = (.slice Ao28 t238.length co28 : Value).ownBlock) (.slice Ao28 t238.length co28) t238 t254 t256 t257 w _ ?side1 ?side2 A46.out).mono ?_); (case side1 => repeat (first | (with_reducible first | exact HB.out | apply below_alloc | apply pw_below_drewN | apply below_drew1) | exact HB.out)); (case side2 => exact Kd.R_tight rfl HO_11.out); rintro e w55 ⟨rfl, hy0, hb, hkp⟩; refine ⟨_, rfl, ?_⟩; have n0_ := zA (Kd.R_mono (ok' := fun k_ => some k_ ≠ (.slice Ao27 t235.length co27 : Value).ownBlock ∧ some k_ ≠ (.slice Ao28 t238.length co28 : Value).ownBlock ∧ some k_ ≠ (v242 : Value).ownBlock ∧ some k_ ≠ (.slice Ao49 t246.length co49 : Value).ownBlock ∧ some k_ ≠ (.slice Ao52 t250.length co52 : Value).ownBlock) (Kd.R_keptB (HO_8.out) hkp (fun k_ hk_ hs_ => (hk_.2.1) hs_)) (fun k_ hk_ => ⟨hk_.1.1, hk_.1.2.1, hk_.1.2.2.1, hk_.1.2.2.2.1, hk_.1.2.2.2.2⟩)); have n1_ := zA (Kd.R_mono (ok' := fun k_ => some k_ ≠ (v233 : Value).ownBlock ∧ some k_ ≠ (.slice Ao28 t238.length co28 : Value).ownBlock ∧ some k_ ≠ (v242 : Value).ownBlock ∧ some k_ ≠ (.slice Ao49 t246.length co49 : Value).ownBlock ∧ some k_ ≠ (.slice Ao52 t250.length co52 : Value).ownBlock) (Kd.R_keptB (HO_10.out) hkp (fun k_ hk_ hs_ => (hk_.1.1.2.1) hs_)) (fun k_ hk_ => ⟨hk_.1.1.1.1, hk_.1.1.1.2.1, hk_.1.1.1.2.2, hk_.1.1.2, hk_.1.2⟩)); have n2_ := zA (Kd.R_reok rfl hy0 (fun k_ e_ => HO_11.out.1 k_ e_)); have n3_ := zA (Kd.R_mono (ok' := fun k_ => some k_ ≠ (v233 : Value).ownBlock ∧ some k_ ≠ (.slice Ao27 t235.length co27 : Value).ownBlock ∧ some k_ ≠ (.slice Ao28 t238.length co28 : Value).ownBlock ∧ some k_ ≠ (.slice Ao49 t246.length co49 : Value).ownBlock ∧ some k_ ≠ (.slice Ao52 t250.length co52 : Value).ownBlock) (Kd.R_keptB (HO_12.out) hkp (fun k_ hk_ hs_ => (hk_.2.2.1) hs_)) (fun k_ hk_ => ⟨hk_.1.1, hk_.1.2.1, hk_.1.2.2.1, hk_.1.2.2.2.1, hk_.1.2.2.2.2⟩)); have n4_ := zA (Kd.R_mono (ok' := fun k_ => some k_ ≠ (v233 : Value).ownBlock ∧ some k_ ≠ (.slice Ao27 t235.length co27 : Value).ownBlock ∧ some k_ ≠ (.slice Ao28 t238.length co28 : Value).ownBlock ∧ some k_ ≠ (v242 : Value).ownBlock ∧ some k_ ≠ (.slice Ao52 t250.length co52 : Value).ownBlock) (Kd.R_keptB (HO248.out) hkp (fun k_ hk_ hs_ => (hk_.2.2.1) hs_)) (fun k_ hk_ => ⟨hk_.1.1, hk_.1.2.1, hk_.1.2.2.1, hk_.1.2.2.2.1, hk_.1.2.2.2.2⟩)); have n5_ := zA (Kd.R_mono (ok' := fun k_ => some k_ ≠ (v233 : Value).ownBlock ∧ some k_ ≠ (.slice Ao27 t235.length co27 : Value).ownBlock ∧ some k_ ≠ (.slice Ao28 t238.length co28 : Value).ownBlock ∧ some k_ ≠ (v242 : Value).ownBlock ∧ some k_ ≠ (.slice Ao49 t246.length co49 : Value).ownBlock) (Kd.R_keptB (HO252.out) hkp (fun k_ hk_ hs_ => (hk_.2.2.1) hs_)) (fun k_ hk_ => ⟨hk_.1.1, hk_.1.2.1, hk_.1.2.2.1, hk_.1.2.2.2.1, hk_.1.2.2.2.2⟩)); have n6_ := zA (hb); clear HO_8; clear HO_10; clear HO_11; clear HO_12; clear HO248; clear HO252; clear HB; have HO_8 := n0_; have HO_10 := n1_; have HO_11 := n2_; have HO_12 := n3_; have HO248 := n4_; have HO252 := n5_; have HB := n6_; clear n0_ n1_ n2_ n3_ n4_ n5_ n6_; (try clear hb); (try clear hkp); (try clear hy0)))
        (try simp only [Act.put, List.setIfInBounds_toArray, List.set_cons_zero, List.set_cons_succ])
        go_cut [86] (fun v86 wc => ∃ (kq : Nat) (x86_46 : Bool), v86 = .bool x86_46 ∧ Aside0 (laws_FnExactMixRecipes.j1 kq l0 l1 a2 t231 t232 t241 x86_46 = some r) ∧ Aside0 (kq ≤ kj16) ∧ Aside0 (Kd.R k36 36 wc w.heap.size (fun k_ => some k_ ≠ (v242 : Value).ownBlock) v233 t231) ∧ Aside0 (Kd.R k36 36 wc w.heap.size (fun k_ => some k_ ≠ (v233 : Value).ownBlock) v242 t241) ∧ Aside0 (Below w.heap.size w wc))
        case first =>
         have H := HC47.out; clear HC47
         by_cases c56 : t256 < 0
         ·rw [if_pos c56] at H
          have c56b0 : decide (t256 < 0) = true := decide_eq_true c56; clear c56
          (first | rw [c56b0] | (simp only [i64_w, i32_w]; rw [c56b0]) | skip)
          have H' := zA H; clear H
          go_wp2
          go_meet
          case rel => exact ⟨_, (true), (by first | rfl | (simp; done) | (simp [*]; done)), H', ⟨by have := HJ16.out; first | omega | exact Nat.le_refl _⟩, ⟨by (with_reducible repeat (first | apply Kd.R_alloc | apply Kd.R_drewN | apply Kd.R_drew)); exact Kd.R_mono HO_8.out (fun _ hk => hk.2.2.1)⟩, ⟨by (with_reducible repeat (first | apply Kd.R_alloc | apply Kd.R_drewN | apply Kd.R_drew)); exact Kd.R_mono HO_12.out (fun _ hk => hk.1)⟩, ⟨by repeat (first | (with_reducible first | exact HB.out | apply below_alloc | apply pw_below_drewN | apply below_drew1) | exact HB.out)⟩⟩
         ·rw [if_neg c56] at H
          have c56b0 : decide (t256 < 0) = false := decide_eq_false c56; clear c56
          (first | rw [c56b0] | (simp only [i64_w, i32_w]; rw [c56b0]) | skip)
          replace H := Option.bind_eq_some_iff.mp H
          obtain ⟨t258, A570, H⟩ := H
          replace H : (if t258 = true then (laws_FnExactMixRecipes.j1 kj16 l0 l1 a2 t231 t232 t241 (t244 != t232)) else (laws_FnExactMixRecipes.j1 kj16 l0 l1 a2 t231 t232 t241 true)) = some r := H
          have A57 := zA A570; clear A570
          by_cases c58 : t258 = true
          ·subst c58
           have H1 : (laws_FnExactMixRecipes.j1 kj16 l0 l1 a2 t231 t232 t241 (t244 != t232)) = some r := by rw [if_pos rfl] at H; exact H
           clear H; have H := H1; clear H1; have H' := zA H; clear H
           obtain ⟨Ao59, co59, eo59⟩ := Kd.R_slice HO_12.out
           subst eo59
           obtain ⟨Ao60, co60, eo60⟩ := Kd.R_slice HO_8.out
           subst eo60
           go_wp2_with (first | (go_at_call 8; (with_reducible refine (laws_eqDyePartS.calls kj16 _ _ t241 _ _ t231 true _ ?side1 ?side2 ?side3 ?side4 A57.out).mono ?_); (case side1 => repeat (first | exact (Kd.R_reads' HO_12.out).2.2 | (with_reducible refine Kd.C_alloc ?_ _) | (with_reducible refine Kd.C_drewN ?_ _) | (with_reducible refine Kd.C_drew ?_))); (case side2 => exact (Kd.R_reads' HO_12.out).2.1); (case side3 => repeat (first | exact (Kd.R_reads' HO_8.out).2.2 | (with_reducible refine Kd.C_alloc ?_ _) | (with_reducible refine Kd.C_drewN ?_ _) | (with_reducible refine Kd.C_drew ?_))); (case side4 => exact (Kd.R_reads' HO_8.out).2.1); rintro e w61 ⟨rfl, hb⟩; have n0_ := zA (Kd.R_below (zR HO_8) hb); have n1_ := zA (Kd.R_below (zR HO_10) hb); have n2_ := zA (Kd.R_below (zR HO_11) hb); have n3_ := zA (Kd.R_below (zR HO_12) hb); have n4_ := zA (Kd.R_below (zR HO248) hb); have n5_ := zA (Kd.R_below (zR HO252) hb); have n6_ := zA (below_step (zW HB) hb); clear HO_8; clear HO_10; clear HO_11; clear HO_12; clear HO248; clear HO252; clear HB; have HO_8 := n0_; have HO_10 := n1_; have HO_11 := n2_; have HO_12 := n3_; have HO248 := n4_; have HO252 := n5_; have HB := n6_; clear n0_ n1_ n2_ n3_ n4_ n5_ n6_; (try clear hb); (try clear hb2); (try clear hk); (try clear hi)))
           go_meet
           case rel => exact ⟨_, ((t244 != t232)), (by first | rfl | (simp; done) | (simp [*]; done)), H', ⟨by have := HJ16.out; first | omega | exact Nat.le_refl _⟩, ⟨by (with_reducible repeat (first | apply Kd.R_alloc | apply Kd.R_drewN | apply Kd.R_drew)); exact Kd.R_mono HO_8.out (fun _ hk => hk.2.2.1)⟩, ⟨by (with_reducible repeat (first | apply Kd.R_alloc | apply Kd.R_drewN | apply Kd.R_drew)); exact Kd.R_mono HO_12.out (fun _ hk => hk.1)⟩, ⟨by repeat (first | (with_reducible first | exact HB.out | apply below_alloc | apply pw_below_drewN | apply below_drew1) | exact HB.out)⟩⟩
          ·replace c58 := Bool.eq_false_iff.mpr c58
           subst c58
           have H1 : (laws_FnExactMixRecipes.j1 kj16 l0 l1 a2 t231 t232 t241 true) = some r := by rw [if_neg (show ¬ (false = true) by decide)] at H; exact H
           clear H; have H := H1; clear H1; have H' := zA H; clear H
           obtain ⟨Ao62, co62, eo62⟩ := Kd.R_slice HO_12.out
           subst eo62
           obtain ⟨Ao63, co63, eo63⟩ := Kd.R_slice HO_8.out
           subst eo63
           go_wp2_with (first | (go_at_call 8; (with_reducible refine (laws_eqDyePartS.calls kj16 _ _ t241 _ _ t231 false _ ?side1 ?side2 ?side3 ?side4 A57.out).mono ?_); (case side1 => repeat (first | exact (Kd.R_reads' HO_12.out).2.2 | (with_reducible refine Kd.C_alloc ?_ _) | (with_reducible refine Kd.C_drewN ?_ _) | (with_reducible refine Kd.C_drew ?_))); (case side2 => exact (Kd.R_reads' HO_12.out).2.1); (case side3 => repeat (first | exact (Kd.R_reads' HO_8.out).2.2 | (with_reducible refine Kd.C_alloc ?_ _) | (with_reducible refine Kd.C_drewN ?_ _) | (with_reducible refine Kd.C_drew ?_))); (case side4 => exact (Kd.R_reads' HO_8.out).2.1); rintro e w64 ⟨rfl, hb⟩; have n0_ := zA (Kd.R_below (zR HO_8) hb); have n1_ := zA (Kd.R_below (zR HO_10) hb); have n2_ := zA (Kd.R_below (zR HO_11) hb); have n3_ := zA (Kd.R_below (zR HO_12) hb); have n4_ := zA (Kd.R_below (zR HO248) hb); have n5_ := zA (Kd.R_below (zR HO252) hb); have n6_ := zA (below_step (zW HB) hb); clear HO_8; clear HO_10; clear HO_11; clear HO_12; clear HO248; clear HO252; clear HB; have HO_8 := n0_; have HO_10 := n1_; have HO_11 := n2_; have HO_12 := n3_; have HO248 := n4_; have HO252 := n5_; have HB := n6_; clear n0_ n1_ n2_ n3_ n4_ n5_ n6_; (try clear hb); (try clear hb2); (try clear hk); (try clear hi)))
           go_meet
           case rel => exact ⟨_, (true), (by first | rfl | (simp; done) | (simp [*]; done)), H', ⟨by have := HJ16.out; first | omega | exact Nat.le_refl _⟩, ⟨by (with_reducible repeat (first | apply Kd.R_alloc | apply Kd.R_drewN | apply Kd.R_drew)); exact Kd.R_mono HO_8.out (fun _ hk => hk.2.2.1)⟩, ⟨by (with_reducible repeat (first | apply Kd.R_alloc | apply Kd.R_drewN | apply Kd.R_drew)); exact Kd.R_mono HO_12.out (fun _ hk => hk.1)⟩, ⟨by repeat (first | (with_reducible first | exact HB.out | apply below_alloc | apply pw_below_drewN | apply below_drew1) | exact HB.out)⟩⟩
        case rest =>
         clear HC47
         try clear c1; try clear p2; try clear c3; try clear c4; try clear c5; try clear c5b0; try clear c6; try clear c7; try clear c8; try clear c8b0; try clear c9; try clear c31; try clear c38; try clear c41; try clear c44; try clear c56; try clear c56b0; try clear c58; try clear p2
         obtain ⟨kq, x86_46, rfl, HA, HJ46, HO_8, HO_12, HB⟩ := hcut
         cases kq with
         | zero => exact absurd HA.out (by simp [laws_FnExactMixRecipes.j1])
         | succ kj46 =>
          have H := HA.out; clear HA
          simp only [laws_FnExactMixRecipes.j1] at H
          by_cases c65 : x86_46 = true
          ·subst c65
           have H1 : (some false) = some r := by rw [if_pos rfl] at H; exact H
           clear H; have H := H1; clear H1
           obtain rfl := Option.some.inj H
           go_wp2
           go_ret
           exact ⟨by first | rfl | (simp [errW_none, errW_some] <;> rfl) | (simp [*, errW_none, errW_some] <;> rfl), by repeat (first | (with_reducible first | exact HB.out | apply below_alloc | apply pw_below_drewN | apply below_drew1) | exact HB.out)⟩
          ·replace c65 := Bool.eq_false_iff.mpr c65
           subst c65
           have H1 : ((laws_markDyePartS.f kj46 t241 1).bind fun bt259 => ((laws_heldDyePartS.f kj46 bt259.2 1).bind fun t261 => (if t261 < 0 then (some false) else (if t261 = bt259.1 then ((laws_toDyePartS.f kj46 l0).bind fun t262 => ((laws_toDyePartS.f kj46 l1).bind fun t265 => ((impl_MixRecipes.f kj46 t262 t265 a2).bind fun bt268 => ((laws_eqDyePartS.f kj46 bt268.1 t231).bind fun t272 => (if t272 = true then (laws_FnExactMixRecipes.j2 kj46 bt259.2 bt259.1 (bt268.2 != t232)) else (laws_FnExactMixRecipes.j2 kj46 bt259.2 bt259.1 true)))))) else (some false))))) = some r := by rw [if_neg (show ¬ (false = true) by decide)] at H; exact H
           clear H; have H := H1; clear H1
           replace H := Option.bind_eq_some_iff.mp H
           obtain ⟨⟨t259, t260⟩, A660, H⟩ := H
           replace H : ((laws_heldDyePartS.f kj46 t260 1).bind fun t261 => (if t261 < 0 then (some false) else (if t261 = t259 then ((laws_toDyePartS.f kj46 l0).bind fun t262 => ((laws_toDyePartS.f kj46 l1).bind fun t265 => ((impl_MixRecipes.f kj46 t262 t265 a2).bind fun bt268 => ((laws_eqDyePartS.f kj46 bt268.1 t231).bind fun t272 => (if t272 = true then (laws_FnExactMixRecipes.j2 kj46 t260 t259 (bt268.2 != t232)) else (laws_FnExactMixRecipes.j2 kj46 t260 t259 true)))))) else (some false)))) = some r := H
           have A66 := zA A660; clear A660
           replace H := Option.bind_eq_some_iff.mp H
           obtain ⟨t261, A670, H⟩ := H
           replace H : (if t261 < 0 then (some false) else (if t261 = t259 then ((laws_toDyePartS.f kj46 l0).bind fun t262 => ((laws_toDyePartS.f kj46 l1).bind fun t265 => ((impl_MixRecipes.f kj46 t262 t265 a2).bind fun bt268 => ((laws_eqDyePartS.f kj46 bt268.1 t231).bind fun t272 => (if t272 = true then (laws_FnExactMixRecipes.j2 kj46 t260 t259 (bt268.2 != t232)) else (laws_FnExactMixRecipes.j2 kj46 t260 t259 true)))))) else (some false))) = some r := H
           have A67 := zA A670; clear A670
           by_cases c68 : t261 < 0
           ·rw [if_pos c68] at H
            have c68b0 : decide (t261 < 0) = true := decide_eq_true c68; clear c68
            obtain rfl := Option.some.inj H
            obtain ⟨Ao69, co69, eo69⟩ := Kd.R_slice HO_12.out
            subst eo69
            go_wp2_with (first | ((with_reducible refine gate_callee (f := 9) rfl ?_); refine goesL_ (some 89) rfl rfl Tryd.func9 (by kernel_rfl) rfl #[.slice Ao69 t241.length co69, .int .i64 1] rfl (zM) ?_; (with_reducible refine (laws_markDyePartS.calls kj46 (fun k_ => some k_ = (.slice Ao69 t241.length co69 : Value).ownBlock) (.slice Ao69 t241.length co69) t241 1 t259 t260 w _ ?side1 ?side2 A66.out).mono ?_); (case side1 => repeat (first | (with_reducible first | exact HB.out | apply below_alloc | apply pw_below_drewN | apply below_drew1) | exact HB.out)); (case side2 => exact Kd.R_tight rfl HO_12.out); rintro e w70 ⟨rfl, hy0, hb, hkp⟩; refine ⟨_, rfl, ?_⟩; have n0_ := zA (Kd.R_mono (ok' := fun k_ => some k_ ≠ (.slice Ao69 t241.length co69 : Value).ownBlock) (Kd.R_keptB (HO_8.out) hkp (fun k_ hk_ hs_ => (hk_) hs_)) (fun k_ hk_ => hk_.1)); have n1_ := zA (Kd.R_reok rfl hy0 (fun k_ e_ => HO_12.out.1 k_ e_)); have n2_ := zA (hb); clear HO_8; clear HO_12; clear HB; have HO_8 := n0_; have HO_12 := n1_; have HB := n2_; clear n0_ n1_ n2_; (try clear hb); (try clear hkp); (try clear hy0)) | ((with_reducible refine gate_callee (f := 10) rfl ?_); refine goesL_ (some 92) rfl rfl Tryd.func10 (by kernel_rfl) rfl #[.slice Ao69 t260.length co69, .int .i64 1] rfl (by (try simp only [List.map_toArray, List.map_cons, List.map_nil]); first | done | (rw [show t260.length = t241.length from (Kd.R_reads' HO_12.out).1.symm] <;> rfl) | rfl | (simp only [List.length_drop, List.length_take]; rfl)) ?_; (with_reducible refine (laws_heldDyePartS.calls kj46 _ _ t260 1 t261 _ ?side1 ?side2 A67.out).mono ?_); (case side1 => repeat (first | exact (Kd.R_reads' HO_12.out).2.2 | (with_reducible refine Kd.C_alloc ?_ _) | (with_reducible refine Kd.C_drewN ?_ _) | (with_reducible refine Kd.C_drew ?_))); (case side2 => rw [show t260.length = t241.length from (Kd.R_reads' HO_12.out).1.symm]; exact (Kd.R_reads' HO_12.out).2.1); rintro e w71 ⟨rfl, hb⟩; refine ⟨_, rfl, ?_⟩; have n0_ := zA (Kd.R_below (zR HO_8) hb); have n1_ := zA (Kd.R_below (zR HO_12) hb); have n2_ := zA (below_step (zW HB) hb); clear HO_8; clear HO_12; clear HB; have HO_8 := n0_; have HO_12 := n1_; have HB := n2_; clear n0_ n1_ n2_; (try clear hb); (try clear hb2); (try clear hk); (try clear hi)))
            go_ret
            exact ⟨by first | rfl | (simp [errW_none, errW_some] <;> rfl) | (simp [*, errW_none, errW_some] <;> rfl), by repeat (first | (with_reducible first | exact HB.out | apply below_alloc | apply pw_below_drewN | apply below_drew1) | exact HB.out)⟩
           ·rw [if_neg c68] at H
            have c68b0 : decide (t261 < 0) = false := decide_eq_false c68; clear c68
            by_cases c72 : t261 = t259
            ·rw [if_pos c72] at H
             have c72b0 : (t261 == t259) = true := beq_iff_eq.mpr c72; have c72b1 : (t261 != t259) = false := bne_eq_false_iff_eq.mpr c72; clear c72
             replace H := Option.bind_eq_some_iff.mp H
             obtain ⟨t262, A730, H⟩ := H
             replace H : ((laws_toDyePartS.f kj46 l1).bind fun t265 => ((impl_MixRecipes.f kj46 t262 t265 a2).bind fun bt268 => ((laws_eqDyePartS.f kj46 bt268.1 t231).bind fun t272 => (if t272 = true then (laws_FnExactMixRecipes.j2 kj46 t260 t259 (bt268.2 != t232)) else (laws_FnExactMixRecipes.j2 kj46 t260 t259 true))))) = some r := H
             have A73 := zA A730; clear A730
             replace H := Option.bind_eq_some_iff.mp H
             obtain ⟨t265, A740, H⟩ := H
             replace H : ((impl_MixRecipes.f kj46 t262 t265 a2).bind fun bt268 => ((laws_eqDyePartS.f kj46 bt268.1 t231).bind fun t272 => (if t272 = true then (laws_FnExactMixRecipes.j2 kj46 t260 t259 (bt268.2 != t232)) else (laws_FnExactMixRecipes.j2 kj46 t260 t259 true)))) = some r := H
             have A74 := zA A740; clear A740
             replace H := Option.bind_eq_some_iff.mp H
             obtain ⟨⟨t268, t271⟩, A750, H⟩ := H
             replace H : ((laws_eqDyePartS.f kj46 t268 t231).bind fun t272 => (if t272 = true then (laws_FnExactMixRecipes.j2 kj46 t260 t259 (t271 != t232)) else (laws_FnExactMixRecipes.j2 kj46 t260 t259 true))) = some r := H
             have A75 := zA A750; clear A750; have HC76 := zA H; clear H
             obtain ⟨Ao77, co77, eo77⟩ := Kd.R_slice HO_12.out
             subst eo77
             go_upto_region 32 with (first | ((with_reducible refine gate_callee (f := 9) rfl ?_); refine goesL_ (some 89) rfl rfl Tryd.func9 (by kernel_rfl) rfl #[.slice Ao77 t241.length co77, .int .i64 1] rfl (zM) ?_; (with_reducible refine (laws_markDyePartS.calls kj46 (fun k_ => some k_ = (.slice Ao77 t241.length co77 : Value).ownBlock) (.slice Ao77 t241.length co77) t241 1 t259 t260 w _ ?side1 ?side2 A66.out).mono ?_); (case side1 => repeat (first | (with_reducible first | exact HB.out | apply below_alloc | apply pw_below_drewN | apply below_drew1) | exact HB.out)); (case side2 => exact Kd.R_tight rfl HO_12.out); rintro e w78 ⟨rfl, hy0, hb, hkp⟩; refine ⟨_, rfl, ?_⟩; have n0_ := zA (Kd.R_mono (ok' := fun k_ => some k_ ≠ (.slice Ao77 t241.length co77 : Value).ownBlock) (Kd.R_keptB (HO_8.out) hkp (fun k_ hk_ hs_ => (hk_) hs_)) (fun k_ hk_ => hk_.1)); have n1_ := zA (Kd.R_reok rfl hy0 (fun k_ e_ => HO_12.out.1 k_ e_)); have n2_ := zA (hb); clear HO_8; clear HO_12; clear HB; have HO_8 := n0_; have HO_12 := n1_; have HB := n2_; clear n0_ n1_ n2_; (try clear hb); (try clear hkp); (try clear hy0)) | ((with_reducible refine gate_callee (f := 10) rfl ?_); refine goesL_ (some 92) rfl rfl Tryd.func10 (by kernel_rfl) rfl #[.slice Ao77 t260.length co77, .int .i64 1] rfl (by (try simp only [List.map_toArray, List.map_cons, List.map_nil]); first | done | (rw [show t260.length = t241.length from (Kd.R_reads' HO_12.out).1.symm] <;> rfl) | rfl | (simp only [List.length_drop, List.length_take]; rfl)) ?_; (with_reducible refine (laws_heldDyePartS.calls kj46 _ _ t260 1 t261 _ ?side1 ?side2 A67.out).mono ?_); (case side1 => repeat (first | exact (Kd.R_reads' HO_12.out).2.2 | (with_reducible refine Kd.C_alloc ?_ _) | (with_reducible refine Kd.C_drewN ?_ _) | (with_reducible refine Kd.C_drew ?_))); (case side2 => rw [show t260.length = t241.length from (Kd.R_reads' HO_12.out).1.symm]; exact (Kd.R_reads' HO_12.out).2.1); rintro e w79 ⟨rfl, hb⟩; refine ⟨_, rfl, ?_⟩; have n0_ := zA (Kd.R_below (zR HO_8) hb); have n1_ := zA (Kd.R_below (zR HO_12) hb); have n2_ := zA (below_step (zW HB) hb); clear HO_8; clear HO_12; clear HB; have HO_8 := n0_; have HO_12 := n1_; have HB := n2_; clear n0_ n1_ n2_; (try clear hb); (try clear hb2); (try clear hk); (try clear hi)) | ((with_reducible refine gate_callee (f := 6) rfl ?_); refine goesL_ (some 100) rfl rfl Tryd.func6 (by kernel_rfl) rfl #[.slice A0 l0.length c0] rfl (zM) ?_; (with_reducible refine (laws_toDyePartS.calls kj46 _ _ l0 t262 _ ?side1 ?side2 A73.out).mono ?_); (case side1 => repeat (first | exact (Kd.C_below HR0.out HB.out) | (with_reducible refine Kd.C_alloc ?_ _) | (with_reducible refine Kd.C_drewN ?_ _) | (with_reducible refine Kd.C_drew ?_))); (case side2 => exact HC0.out); rintro e w80 ⟨v263, rfl, ho0, hb⟩; refine ⟨_, rfl, ?_⟩; have n0_ := zA (Kd.R_elder' (zR HO_8) (Kd.R_base ho0) hb); have n1_ := zA (Kd.R_elder' (zR HO_12) (Kd.R_base ho0) hb); have n2_ := zA (Kd.R_lower (Kd.R_new' (Kd.R_new' ho0 (Kd.R_lt (zR HO_8))) (Kd.R_lt (zR HO_12))) (below_size (zW HB))); have n3_ := zA (below_step (zW HB) hb); clear HO_8; clear HO_12; clear HB; have HO_8 := n0_; have HO_12 := n1_; have HO264 := n2_; have HB := n3_; clear n0_ n1_ n2_ n3_; (try clear hb); (try clear hb2); (try clear hk); (try clear hi); (try clear ho0)) | ((with_reducible refine gate_callee (f := 6) rfl ?_); refine goesL_ (some 102) rfl rfl Tryd.func6 (by kernel_rfl) rfl #[.slice A1 l1.length c1] rfl (zM) ?_; (with_reducible refine (laws_toDyePartS.calls kj46 _ _ l1 t265 _ ?side1 ?side2 A74.out).mono ?_); (case side1 => repeat (first | exact (Kd.C_below HR1.out HB.out) | (with_reducible refine Kd.C_alloc ?_ _) | (with_reducible refine Kd.C_drewN ?_ _) | (with_reducible refine Kd.C_drew ?_))); (case side2 => exact HC1.out); rintro e w81 ⟨v266, rfl, ho0, hb⟩; refine ⟨_, rfl, ?_⟩; have n0_ := zA (Kd.R_elder' (zR HO_8) (Kd.R_base ho0) hb); have n1_ := zA (Kd.R_elder' (zR HO_12) (Kd.R_base ho0) hb); have n2_ := zA (Kd.R_elder' (zR HO264) (Kd.R_base ho0) hb); have n3_ := zA (Kd.R_lower (Kd.R_new' (Kd.R_new' (Kd.R_new' ho0 (Kd.R_lt (zR HO_8))) (Kd.R_lt (zR HO_12))) (Kd.R_lt (zR HO264))) (below_size (zW HB))); have n4_ := zA (below_step (zW HB) hb); clear HO_8; clear HO_12; clear HO264; clear HB; have HO_8 := n0_; have HO_12 := n1_; have HO264 := n2_; have HO267 := n3_; have HB := n4_; clear n0_ n1_ n2_ n3_ n4_; (try clear hb); (try clear hb2); (try clear hk); (try clear hi); (try clear ho0); obtain ⟨Ao82, co82, eo82⟩ := Kd.R_slice HO264.out; subst eo82; obtain ⟨Ao83, co83, eo83⟩ := Kd.R_slice HO267.out; subst eo83) | ((with_reducible refine gate_callee (f := 7) rfl ?_); refine goesL_ (some 104) rfl rfl Tryd.func7 (by kernel_rfl) rfl #[.slice Ao82 t262.length co82, .slice Ao83 t265.length co83, .int .i64 a2] rfl (zM) ?_; (with_reducible refine (impl_MixRecipes.calls kj46 (fun k_ => some k_ = (.slice Ao82 t262.length co82 : Value).ownBlock) _ _ t262 (fun k_ => some k_ = (.slice Ao83 t265.length co83 : Value).ownBlock) _ _ t265 a2 t268 t271 _ ?side1 ?side2 A75.out).mono ?_); (case side1 => exact Kd.R_V (Kd.R_tight rfl (HO264.out))); (case side2 => exact Kd.R_V (Kd.R_tight rfl (HO267.out))); rintro e w84 ⟨v269, rfl, ho0, hb⟩; refine ⟨_, rfl, ?_⟩; have n0_ := zA (Kd.R_elder' (zR HO_8) (Kd.R_base ho0) hb); have n1_ := zA (Kd.R_elder' (zR HO_12) (Kd.R_base ho0) hb); have n2_ := zA (Kd.R_elder' (zR HO264) (Kd.R_base ho0) hb); have n3_ := zA (Kd.R_elder' (zR HO267) (Kd.R_base ho0) hb); have n4_ := zA (Kd.R_lower (Kd.R_new' (Kd.R_new' (Kd.R_new' (Kd.R_new' (Kd.R_mono (ok' := fun k_ => True) ho0 (fun _ hk_ => trivial)) (Kd.R_lt (zR HO_8))) (Kd.R_lt (zR HO_12))) (Kd.R_lt (zR HO264))) (Kd.R_lt (zR HO267))) (below_size (zW HB))); have n5_ := zA (below_step (zW HB) hb); clear HO_8; clear HO_12; clear HO264; clear HO267; clear HB; have HO_8 := n0_; have HO_12 := n1_; have HO264 := n2_; have HO267 := n3_; have HO270 := n4_; have HB := n5_; clear n0_ n1_ n2_ n3_ n4_ n5_; (try clear hb); (try clear hb2); (try clear hk); (try clear hi); (try clear ho0)))
             (try simp only [Act.put, List.setIfInBounds_toArray, List.set_cons_zero, List.set_cons_succ])
             go_cut [115] (fun v115 wc => ∃ (kq : Nat) (x115_75 : Bool), v115 = .bool x115_75 ∧ Aside0 (laws_FnExactMixRecipes.j2 kq t260 t259 x115_75 = some r) ∧ Aside0 (kq ≤ kj46) ∧ Aside0 (Kd.R k36 36 wc w.heap.size (fun _ => True) (.slice Ao77 t241.length co77) t260) ∧ Aside0 (Below w.heap.size w wc))
             case first =>
              have H := HC76.out; clear HC76
              replace H := Option.bind_eq_some_iff.mp H
              obtain ⟨t272, A850, H⟩ := H
              replace H : (if t272 = true then (laws_FnExactMixRecipes.j2 kj46 t260 t259 (t271 != t232)) else (laws_FnExactMixRecipes.j2 kj46 t260 t259 true)) = some r := H
              have A85 := zA A850; clear A850
              by_cases c86 : t272 = true
              ·subst c86
               have H1 : (laws_FnExactMixRecipes.j2 kj46 t260 t259 (t271 != t232)) = some r := by rw [if_pos rfl] at H; exact H
               clear H; have H := H1; clear H1; have H' := zA H; clear H
               obtain ⟨Ao87, co87, eo87⟩ := Kd.R_slice HO270.out
               subst eo87
               obtain ⟨Ao88, co88, eo88⟩ := Kd.R_slice HO_8.out
               subst eo88
               go_wp2_with (first | ((with_reducible refine gate_callee (f := 8) rfl ?_); refine goesL_ (some 109) rfl rfl Tryd.func8 (by kernel_rfl) rfl #[.slice Ao87 t268.length co87, .slice Ao88 t231.length co88] rfl (zM) ?_; (with_reducible refine (laws_eqDyePartS.calls kj46 _ _ t268 _ _ t231 true _ ?side1 ?side2 ?side3 ?side4 A85.out).mono ?_); (case side1 => repeat (first | exact (Kd.R_reads' HO270.out).2.2 | (with_reducible refine Kd.C_alloc ?_ _) | (with_reducible refine Kd.C_drewN ?_ _) | (with_reducible refine Kd.C_drew ?_))); (case side2 => exact (Kd.R_reads' HO270.out).2.1); (case side3 => repeat (first | exact (Kd.R_reads' HO_8.out).2.2 | (with_reducible refine Kd.C_alloc ?_ _) | (with_reducible refine Kd.C_drewN ?_ _) | (with_reducible refine Kd.C_drew ?_))); (case side4 => exact (Kd.R_reads' HO_8.out).2.1); rintro e w89 ⟨rfl, hb⟩; refine ⟨_, rfl, ?_⟩; have n0_ := zA (Kd.R_below (zR HO_8) hb); have n1_ := zA (Kd.R_below (zR HO_12) hb); have n2_ := zA (Kd.R_below (zR HO264) hb); have n3_ := zA (Kd.R_below (zR HO267) hb); have n4_ := zA (Kd.R_below (zR HO270) hb); have n5_ := zA (below_step (zW HB) hb); clear HO_8; clear HO_12; clear HO264; clear HO267; clear HO270; clear HB; have HO_8 := n0_; have HO_12 := n1_; have HO264 := n2_; have HO267 := n3_; have HO270 := n4_; have HB := n5_; clear n0_ n1_ n2_ n3_ n4_ n5_; (try clear hb); (try clear hb2); (try clear hk); (try clear hi)))
               go_meet
               case rel => exact ⟨_, ((t271 != t232)), (by first | rfl | (simp; done) | (simp [*]; done)), H', ⟨by have := HJ16.out; have := HJ46.out; first | omega | exact Nat.le_refl _⟩, ⟨by (with_reducible repeat (first | apply Kd.R_alloc | apply Kd.R_drewN | apply Kd.R_drew)); exact Kd.R_mono HO_12.out (fun _ hk => trivial)⟩, ⟨by repeat (first | (with_reducible first | exact HB.out | apply below_alloc | apply pw_below_drewN | apply below_drew1) | exact HB.out)⟩⟩
              ·replace c86 := Bool.eq_false_iff.mpr c86
               subst c86
               have H1 : (laws_FnExactMixRecipes.j2 kj46 t260 t259 true) = some r := by rw [if_neg (show ¬ (false = true) by decide)] at H; exact H
               clear H; have H := H1; clear H1; have H' := zA H; clear H
               obtain ⟨Ao90, co90, eo90⟩ := Kd.R_slice HO270.out
               subst eo90
               obtain ⟨Ao91, co91, eo91⟩ := Kd.R_slice HO_8.out
               subst eo91
               go_wp2_with (first | ((with_reducible refine gate_callee (f := 8) rfl ?_); refine goesL_ (some 109) rfl rfl Tryd.func8 (by kernel_rfl) rfl #[.slice Ao90 t268.length co90, .slice Ao91 t231.length co91] rfl (zM) ?_; (with_reducible refine (laws_eqDyePartS.calls kj46 _ _ t268 _ _ t231 false _ ?side1 ?side2 ?side3 ?side4 A85.out).mono ?_); (case side1 => repeat (first | exact (Kd.R_reads' HO270.out).2.2 | (with_reducible refine Kd.C_alloc ?_ _) | (with_reducible refine Kd.C_drewN ?_ _) | (with_reducible refine Kd.C_drew ?_))); (case side2 => exact (Kd.R_reads' HO270.out).2.1); (case side3 => repeat (first | exact (Kd.R_reads' HO_8.out).2.2 | (with_reducible refine Kd.C_alloc ?_ _) | (with_reducible refine Kd.C_drewN ?_ _) | (with_reducible refine Kd.C_drew ?_))); (case side4 => exact (Kd.R_reads' HO_8.out).2.1); rintro e w92 ⟨rfl, hb⟩; refine ⟨_, rfl, ?_⟩; have n0_ := zA (Kd.R_below (zR HO_8) hb); have n1_ := zA (Kd.R_below (zR HO_12) hb); have n2_ := zA (Kd.R_below (zR HO264) hb); have n3_ := zA (Kd.R_below (zR HO267) hb); have n4_ := zA (Kd.R_below (zR HO270) hb); have n5_ := zA (below_step (zW HB) hb); clear HO_8; clear HO_12; clear HO264; clear HO267; clear HO270; clear HB; have HO_8 := n0_; have HO_12 := n1_; have HO264 := n2_; have HO267 := n3_; have HO270 := n4_; have HB := n5_; clear n0_ n1_ n2_ n3_ n4_ n5_; (try clear hb); (try clear hb2); (try clear hk); (try clear hi)))
               go_meet
               case rel => exact ⟨_, (true), (by first | rfl | (simp; done) | (simp [*]; done)), H', ⟨by have := HJ16.out; have := HJ46.out; first | omega | exact Nat.le_refl _⟩, ⟨by (with_reducible repeat (first | apply Kd.R_alloc | apply Kd.R_drewN | apply Kd.R_drew)); exact Kd.R_mono HO_12.out (fun _ hk => trivial)⟩, ⟨by repeat (first | (with_reducible first | exact HB.out | apply below_alloc | apply pw_below_drewN | apply below_drew1) | exact HB.out)⟩⟩
             case rest =>
              clear HC76
              try clear c1; try clear p2; try clear c3; try clear c4; try clear c5; try clear c5b0; try clear c6; try clear c7; try clear c8; try clear c8b0; try clear c9; try clear c10; try clear c31; try clear c38; try clear c41; try clear c44; try clear c56; try clear c56b0; try clear c58; try clear c65; try clear c68; try clear c68b0; try clear c72; try clear c72b0; try clear c72b1; try clear c86; try clear p2
              obtain ⟨kq, x115_75, rfl, HA, HJ75, HO_12, HB⟩ := hcut
              have hl12_75 := (Kd.R_reads' HO_12.out).1
              rw [hl12_75] at HO_12
              (try simp only [hl12_75])
              cases kq with
              | zero => exact absurd HA.out (by simp [laws_FnExactMixRecipes.j2])
              | succ kj75 =>
               have H := HA.out; clear HA
               simp only [laws_FnExactMixRecipes.j2] at H
               by_cases c93 : x115_75 = true
               ·subst c93
                have H1 : (some false) = some r := by rw [if_pos rfl] at H; exact H
                clear H; have H := H1; clear H1
                obtain rfl := Option.some.inj H
                go_wp2
                go_ret
                exact ⟨by first | rfl | (simp [errW_none, errW_some] <;> rfl) | (simp [*, errW_none, errW_some] <;> rfl), by repeat (first | (with_reducible first | exact HB.out | apply below_alloc | apply pw_below_drewN | apply below_drew1) | exact HB.out)⟩
               ·replace c93 := Bool.eq_false_iff.mpr c93
                subst c93
                have H1 : ((laws_heldDyePartS.f kj75 t260 1).bind fun t273 => (if t273 < 0 then (some false) else (if t273 = t259 then (some true) else (some false)))) = some r := by rw [if_neg (show ¬ (false = true) by decide)] at H; exact H
                clear H; have H := H1; clear H1
                replace H := Option.bind_eq_some_iff.mp H
                obtain ⟨t273, A940, H⟩ := H
                replace H : (if t273 < 0 then (some false) else (if t273 = t259 then (some true) else (some false))) = some r := H
                have A94 := zA A940; clear A940
                by_cases c95 : t273 < 0
                ·rw [if_pos c95] at H
                 have c95b0 : decide (t273 < 0) = true := decide_eq_true c95; clear c95
                 obtain rfl := Option.some.inj H
                 go_wp2_with (first | ((with_reducible refine gate_callee (f := 10) rfl ?_); refine goesL_ (some 118) rfl rfl Tryd.func10 (by kernel_rfl) rfl #[.slice Ao77 t260.length co77, .int .i64 1] rfl (zM) ?_; (with_reducible refine (laws_heldDyePartS.calls kj75 _ _ t260 1 t273 _ ?side1 ?side2 A94.out).mono ?_); (case side1 => repeat (first | exact (Kd.R_reads' HO_12.out).2.2 | (with_reducible refine Kd.C_alloc ?_ _) | (with_reducible refine Kd.C_drewN ?_ _) | (with_reducible refine Kd.C_drew ?_))); (case side2 => exact (Kd.R_reads' HO_12.out).2.1); rintro e w96 ⟨rfl, hb⟩; refine ⟨_, rfl, ?_⟩; have n0_ := zA (Kd.R_below (zR HO_12) hb); have n1_ := zA (below_step (zW HB) hb); clear HO_12; clear HB; have HO_12 := n0_; have HB := n1_; clear n0_ n1_; (try clear hb); (try clear hb2); (try clear hk); (try clear hi)))
                 go_ret
                 exact ⟨by first | rfl | (simp [errW_none, errW_some] <;> rfl) | (simp [*, errW_none, errW_some] <;> rfl), by repeat (first | (with_reducible first | exact HB.out | apply below_alloc | apply pw_below_drewN | apply below_drew1) | exact HB.out)⟩
                ·rw [if_neg c95] at H
                 have c95b0 : decide (t273 < 0) = false := decide_eq_false c95; clear c95
                 by_cases c97 : t273 = t259
                 ·rw [if_pos c97] at H
                  have c97b0 : (t273 == t259) = true := beq_iff_eq.mpr c97; have c97b1 : (t273 != t259) = false := bne_eq_false_iff_eq.mpr c97; clear c97
                  obtain rfl := Option.some.inj H
                  go_wp2_with (first | ((with_reducible refine gate_callee (f := 10) rfl ?_); refine goesL_ (some 118) rfl rfl Tryd.func10 (by kernel_rfl) rfl #[.slice Ao77 t260.length co77, .int .i64 1] rfl (zM) ?_; (with_reducible refine (laws_heldDyePartS.calls kj75 _ _ t260 1 t273 _ ?side1 ?side2 A94.out).mono ?_); (case side1 => repeat (first | exact (Kd.R_reads' HO_12.out).2.2 | (with_reducible refine Kd.C_alloc ?_ _) | (with_reducible refine Kd.C_drewN ?_ _) | (with_reducible refine Kd.C_drew ?_))); (case side2 => exact (Kd.R_reads' HO_12.out).2.1); rintro e w98 ⟨rfl, hb⟩; refine ⟨_, rfl, ?_⟩; have n0_ := zA (Kd.R_below (zR HO_12) hb); have n1_ := zA (below_step (zW HB) hb); clear HO_12; clear HB; have HO_12 := n0_; have HB := n1_; clear n0_ n1_; (try clear hb); (try clear hb2); (try clear hk); (try clear hi)))
                  go_ret
                  exact ⟨by first | rfl | (simp [errW_none, errW_some] <;> rfl) | (simp [*, errW_none, errW_some] <;> rfl), by repeat (first | (with_reducible first | exact HB.out | apply below_alloc | apply pw_below_drewN | apply below_drew1) | exact HB.out)⟩
                 ·rw [if_neg c97] at H
                  have c97b0 : (t273 == t259) = false := beq_eq_false_iff_ne.mpr c97; have c97b1 : (t273 != t259) = true := bne_iff_ne.mpr c97
                  obtain rfl := Option.some.inj H
                  go_wp2_with (first | ((with_reducible refine gate_callee (f := 10) rfl ?_); refine goesL_ (some 118) rfl rfl Tryd.func10 (by kernel_rfl) rfl #[.slice Ao77 t260.length co77, .int .i64 1] rfl (zM) ?_; (with_reducible refine (laws_heldDyePartS.calls kj75 _ _ t260 1 t273 _ ?side1 ?side2 A94.out).mono ?_); (case side1 => repeat (first | exact (Kd.R_reads' HO_12.out).2.2 | (with_reducible refine Kd.C_alloc ?_ _) | (with_reducible refine Kd.C_drewN ?_ _) | (with_reducible refine Kd.C_drew ?_))); (case side2 => exact (Kd.R_reads' HO_12.out).2.1); rintro e w99 ⟨rfl, hb⟩; refine ⟨_, rfl, ?_⟩; have n0_ := zA (Kd.R_below (zR HO_12) hb); have n1_ := zA (below_step (zW HB) hb); clear HO_12; clear HB; have HO_12 := n0_; have HB := n1_; clear n0_ n1_; (try clear hb); (try clear hb2); (try clear hk); (try clear hi)))
                  go_ret
                  exact ⟨by first | rfl | (simp [errW_none, errW_some] <;> rfl) | (simp [*, errW_none, errW_some] <;> rfl), by repeat (first | (with_reducible first | exact HB.out | apply below_alloc | apply pw_below_drewN | apply below_drew1) | exact HB.out)⟩
            ·rw [if_neg c72] at H
             have c72b0 : (t261 == t259) = false := beq_eq_false_iff_ne.mpr c72; have c72b1 : (t261 != t259) = true := bne_iff_ne.mpr c72
             obtain rfl := Option.some.inj H
             obtain ⟨Ao100, co100, eo100⟩ := Kd.R_slice HO_12.out
             subst eo100
             go_wp2_with (first | ((with_reducible refine gate_callee (f := 9) rfl ?_); refine goesL_ (some 89) rfl rfl Tryd.func9 (by kernel_rfl) rfl #[.slice Ao100 t241.length co100, .int .i64 1] rfl (zM) ?_; (with_reducible refine (laws_markDyePartS.calls kj46 (fun k_ => some k_ = (.slice Ao100 t241.length co100 : Value).ownBlock) (.slice Ao100 t241.length co100) t241 1 t259 t260 w _ ?side1 ?side2 A66.out).mono ?_); (case side1 => repeat (first | (with_reducible first | exact HB.out | apply below_alloc | apply pw_below_drewN | apply below_drew1) | exact HB.out)); (case side2 => exact Kd.R_tight rfl HO_12.out); rintro e w101 ⟨rfl, hy0, hb, hkp⟩; refine ⟨_, rfl, ?_⟩; have n0_ := zA (Kd.R_mono (ok' := fun k_ => some k_ ≠ (.slice Ao100 t241.length co100 : Value).ownBlock) (Kd.R_keptB (HO_8.out) hkp (fun k_ hk_ hs_ => (hk_) hs_)) (fun k_ hk_ => hk_.1)); have n1_ := zA (Kd.R_reok rfl hy0 (fun k_ e_ => HO_12.out.1 k_ e_)); have n2_ := zA (hb); clear HO_8; clear HO_12; clear HB; have HO_8 := n0_; have HO_12 := n1_; have HB := n2_; clear n0_ n1_ n2_; (try clear hb); (try clear hkp); (try clear hy0)) | ((with_reducible refine gate_callee (f := 10) rfl ?_); refine goesL_ (some 92) rfl rfl Tryd.func10 (by kernel_rfl) rfl #[.slice Ao100 t260.length co100, .int .i64 1] rfl (by (try simp only [List.map_toArray, List.map_cons, List.map_nil]); first | done | (rw [show t260.length = t241.length from (Kd.R_reads' HO_12.out).1.symm] <;> rfl) | rfl | (simp only [List.length_drop, List.length_take]; rfl)) ?_; (with_reducible refine (laws_heldDyePartS.calls kj46 _ _ t260 1 t261 _ ?side1 ?side2 A67.out).mono ?_); (case side1 => repeat (first | exact (Kd.R_reads' HO_12.out).2.2 | (with_reducible refine Kd.C_alloc ?_ _) | (with_reducible refine Kd.C_drewN ?_ _) | (with_reducible refine Kd.C_drew ?_))); (case side2 => rw [show t260.length = t241.length from (Kd.R_reads' HO_12.out).1.symm]; exact (Kd.R_reads' HO_12.out).2.1); rintro e w102 ⟨rfl, hb⟩; refine ⟨_, rfl, ?_⟩; have n0_ := zA (Kd.R_below (zR HO_8) hb); have n1_ := zA (Kd.R_below (zR HO_12) hb); have n2_ := zA (below_step (zW HB) hb); clear HO_8; clear HO_12; clear HB; have HO_8 := n0_; have HO_12 := n1_; have HB := n2_; clear n0_ n1_ n2_; (try clear hb); (try clear hb2); (try clear hk); (try clear hi)))
             go_ret
             exact ⟨by first | rfl | (simp [errW_none, errW_some] <;> rfl) | (simp [*, errW_none, errW_some] <;> rfl), by repeat (first | (with_reducible first | exact HB.out | apply below_alloc | apply pw_below_drewN | apply below_drew1) | exact HB.out)⟩
       ·replace c44 := Bool.eq_false_iff.mpr c44
        subst c44
        have H1 : (some false) = some r := by rw [if_neg (show ¬ (false = true) by decide)] at H; exact H
        clear H; have H := H1; clear H1
        obtain rfl := Option.some.inj H
        go_wp2_with (first | ((with_reducible refine gate_callee (f := 6) rfl ?_); refine goesL_ (some 60) rfl rfl Tryd.func6 (by kernel_rfl) rfl #[.slice A0 l0.length c0] rfl (zM) ?_; (with_reducible refine (laws_toDyePartS.calls kj16 _ _ l0 t246 _ ?side1 ?side2 A39.out).mono ?_); (case side1 => repeat (first | exact (Kd.C_below HR0.out HB.out) | (with_reducible refine Kd.C_alloc ?_ _) | (with_reducible refine Kd.C_drewN ?_ _) | (with_reducible refine Kd.C_drew ?_))); (case side2 => exact HC0.out); rintro e w103 ⟨v247, rfl, ho0, hb⟩; refine ⟨_, rfl, ?_⟩; have n0_ := zA (Kd.R_elder' (zR HO_8) (Kd.R_base ho0) hb); have n1_ := zA (Kd.R_elder' (zR HO_10) (Kd.R_base ho0) hb); have n2_ := zA (Kd.R_elder' (zR HO_11) (Kd.R_base ho0) hb); have n3_ := zA (Kd.R_elder' (zR HO_12) (Kd.R_base ho0) hb); have n4_ := zA (Kd.R_lower (Kd.R_new' (Kd.R_new' (Kd.R_new' (Kd.R_new' ho0 (Kd.R_lt (zR HO_8))) (Kd.R_lt (zR HO_10))) (Kd.R_lt (zR HO_11))) (Kd.R_lt (zR HO_12))) (below_size (zW HB))); have n5_ := zA (below_step (zW HB) hb); clear HO_8; clear HO_10; clear HO_11; clear HO_12; clear HB; have HO_8 := n0_; have HO_10 := n1_; have HO_11 := n2_; have HO_12 := n3_; have HO248 := n4_; have HB := n5_; clear n0_ n1_ n2_ n3_ n4_ n5_; (try clear hb); (try clear hb2); (try clear hk); (try clear hi); (try clear ho0); obtain ⟨Ao104, co104, eo104⟩ := Kd.R_slice HO248.out; subst eo104) | ((with_reducible refine gate_callee (f := 8) rfl ?_); refine goesL_ (some 61) rfl rfl Tryd.func8 (by kernel_rfl) rfl #[.slice Ao27 t235.length co27, .slice Ao104 t246.length co104] rfl (zM) ?_; (with_reducible refine (laws_eqDyePartS.calls kj16 _ _ t235 _ _ t246 true _ ?side1 ?side2 ?side3 ?side4 A40.out).mono ?_); (case side1 => repeat (first | exact (Kd.R_reads' HO_10.out).2.2 | (with_reducible refine Kd.C_alloc ?_ _) | (with_reducible refine Kd.C_drewN ?_ _) | (with_reducible refine Kd.C_drew ?_))); (case side2 => exact (Kd.R_reads' HO_10.out).2.1); (case side3 => repeat (first | exact (Kd.R_reads' HO248.out).2.2 | (with_reducible refine Kd.C_alloc ?_ _) | (with_reducible refine Kd.C_drewN ?_ _) | (with_reducible refine Kd.C_drew ?_))); (case side4 => exact (Kd.R_reads' HO248.out).2.1); rintro e w105 ⟨rfl, hb⟩; refine ⟨_, rfl, ?_⟩; have n0_ := zA (Kd.R_below (zR HO_8) hb); have n1_ := zA (Kd.R_below (zR HO_10) hb); have n2_ := zA (Kd.R_below (zR HO_11) hb); have n3_ := zA (Kd.R_below (zR HO_12) hb); have n4_ := zA (Kd.R_below (zR HO248) hb); have n5_ := zA (below_step (zW HB) hb); clear HO_8; clear HO_10; clear HO_11; clear HO_12; clear HO248; clear HB; have HO_8 := n0_; have HO_10 := n1_; have HO_11 := n2_; have HO_12 := n3_; have HO248 := n4_; have HB := n5_; clear n0_ n1_ n2_ n3_ n4_ n5_; (try clear hb); (try clear hb2); (try clear hk); (try clear hi)) | ((with_reducible refine gate_callee (f := 6) rfl ?_); refine goesL_ (some 65) rfl rfl Tryd.func6 (by kernel_rfl) rfl #[.slice A1 l1.length c1] rfl (zM) ?_; (with_reducible refine (laws_toDyePartS.calls kj16 _ _ l1 t250 _ ?side1 ?side2 A42.out).mono ?_); (case side1 => repeat (first | exact (Kd.C_below HR1.out HB.out) | (with_reducible refine Kd.C_alloc ?_ _) | (with_reducible refine Kd.C_drewN ?_ _) | (with_reducible refine Kd.C_drew ?_))); (case side2 => exact HC1.out); rintro e w106 ⟨v251, rfl, ho0, hb⟩; refine ⟨_, rfl, ?_⟩; have n0_ := zA (Kd.R_elder' (zR HO_8) (Kd.R_base ho0) hb); have n1_ := zA (Kd.R_elder' (zR HO_10) (Kd.R_base ho0) hb); have n2_ := zA (Kd.R_elder' (zR HO_11) (Kd.R_base ho0) hb); have n3_ := zA (Kd.R_elder' (zR HO_12) (Kd.R_base ho0) hb); have n4_ := zA (Kd.R_elder' (zR HO248) (Kd.R_base ho0) hb); have n5_ := zA (Kd.R_lower (Kd.R_new' (Kd.R_new' (Kd.R_new' (Kd.R_new' (Kd.R_new' ho0 (Kd.R_lt (zR HO_8))) (Kd.R_lt (zR HO_10))) (Kd.R_lt (zR HO_11))) (Kd.R_lt (zR HO_12))) (Kd.R_lt (zR HO248))) (below_size (zW HB))); have n6_ := zA (below_step (zW HB) hb); clear HO_8; clear HO_10; clear HO_11; clear HO_12; clear HO248; clear HB; have HO_8 := n0_; have HO_10 := n1_; have HO_11 := n2_; have HO_12 := n3_; have HO248 := n4_; have HO252 := n5_; have HB := n6_; clear n0_ n1_ n2_ n3_ n4_ n5_ n6_; (try clear hb); (try clear hb2); (try clear hk); (try clear hi); (try clear ho0); obtain ⟨Ao107, co107, eo107⟩ := Kd.R_slice HO252.out; subst eo107) | ((with_reducible refine gate_callee (f := 8) rfl ?_); refine goesL_ (some 66) rfl rfl Tryd.func8 (by kernel_rfl) rfl #[.slice Ao28 t238.length co28, .slice Ao107 t250.length co107] rfl (zM) ?_; (with_reducible refine (laws_eqDyePartS.calls kj16 _ _ t238 _ _ t250 false _ ?side1 ?side2 ?side3 ?side4 A43.out).mono ?_); (case side1 => repeat (first | exact (Kd.R_reads' HO_11.out).2.2 | (with_reducible refine Kd.C_alloc ?_ _) | (with_reducible refine Kd.C_drewN ?_ _) | (with_reducible refine Kd.C_drew ?_))); (case side2 => exact (Kd.R_reads' HO_11.out).2.1); (case side3 => repeat (first | exact (Kd.R_reads' HO252.out).2.2 | (with_reducible refine Kd.C_alloc ?_ _) | (with_reducible refine Kd.C_drewN ?_ _) | (with_reducible refine Kd.C_drew ?_))); (case side4 => exact (Kd.R_reads' HO252.out).2.1); rintro e w108 ⟨rfl, hb⟩; refine ⟨_, rfl, ?_⟩; have n0_ := zA (Kd.R_below (zR HO_8) hb); have n1_ := zA (Kd.R_below (zR HO_10) hb); have n2_ := zA (Kd.R_below (zR HO_11) hb); have n3_ := zA (Kd.R_below (zR HO_12) hb); have n4_ := zA (Kd.R_below (zR HO248) hb); have n5_ := zA (Kd.R_below (zR HO252) hb); have n6_ := zA (below_step (zW HB) hb); clear HO_8; clear HO_10; clear HO_11; clear HO_12; clear HO248; clear HO252; clear HB; have HO_8 := n0_; have HO_10 := n1_; have HO_11 := n2_; have HO_12 := n3_; have HO248 := n4_; have HO252 := n5_; have HB := n6_; clear n0_ n1_ n2_ n3_ n4_ n5_ n6_; (try clear hb); (try clear hb2); (try clear hk); (try clear hi)))
        go_ret
        exact ⟨by first | rfl | (simp [errW_none, errW_some] <;> rfl) | (simp [*, errW_none, errW_some] <;> rfl), by repeat (first | (with_reducible first | exact HB.out | apply below_alloc | apply pw_below_drewN | apply below_drew1) | exact HB.out)⟩
      ·replace c41 := Bool.eq_false_iff.mpr c41
       subst c41
       have H1 : (some false) = some r := by rw [if_neg (show ¬ (false = true) by decide)] at H; exact H
       clear H; have H := H1; clear H1
       obtain rfl := Option.some.inj H
       go_wp2_with (first | ((with_reducible refine gate_callee (f := 6) rfl ?_); refine goesL_ (some 60) rfl rfl Tryd.func6 (by kernel_rfl) rfl #[.slice A0 l0.length c0] rfl (zM) ?_; (with_reducible refine (laws_toDyePartS.calls kj16 _ _ l0 t246 _ ?side1 ?side2 A39.out).mono ?_); (case side1 => repeat (first | exact (Kd.C_below HR0.out HB.out) | (with_reducible refine Kd.C_alloc ?_ _) | (with_reducible refine Kd.C_drewN ?_ _) | (with_reducible refine Kd.C_drew ?_))); (case side2 => exact HC0.out); rintro e w109 ⟨v247, rfl, ho0, hb⟩; refine ⟨_, rfl, ?_⟩; have n0_ := zA (Kd.R_elder' (zR HO_8) (Kd.R_base ho0) hb); have n1_ := zA (Kd.R_elder' (zR HO_10) (Kd.R_base ho0) hb); have n2_ := zA (Kd.R_elder' (zR HO_11) (Kd.R_base ho0) hb); have n3_ := zA (Kd.R_elder' (zR HO_12) (Kd.R_base ho0) hb); have n4_ := zA (Kd.R_lower (Kd.R_new' (Kd.R_new' (Kd.R_new' (Kd.R_new' ho0 (Kd.R_lt (zR HO_8))) (Kd.R_lt (zR HO_10))) (Kd.R_lt (zR HO_11))) (Kd.R_lt (zR HO_12))) (below_size (zW HB))); have n5_ := zA (below_step (zW HB) hb); clear HO_8; clear HO_10; clear HO_11; clear HO_12; clear HB; have HO_8 := n0_; have HO_10 := n1_; have HO_11 := n2_; have HO_12 := n3_; have HO248 := n4_; have HB := n5_; clear n0_ n1_ n2_ n3_ n4_ n5_; (try clear hb); (try clear hb2); (try clear hk); (try clear hi); (try clear ho0); obtain ⟨Ao110, co110, eo110⟩ := Kd.R_slice HO248.out; subst eo110) | ((with_reducible refine gate_callee (f := 8) rfl ?_); refine goesL_ (some 61) rfl rfl Tryd.func8 (by kernel_rfl) rfl #[.slice Ao27 t235.length co27, .slice Ao110 t246.length co110] rfl (zM) ?_; (with_reducible refine (laws_eqDyePartS.calls kj16 _ _ t235 _ _ t246 false _ ?side1 ?side2 ?side3 ?side4 A40.out).mono ?_); (case side1 => repeat (first | exact (Kd.R_reads' HO_10.out).2.2 | (with_reducible refine Kd.C_alloc ?_ _) | (with_reducible refine Kd.C_drewN ?_ _) | (with_reducible refine Kd.C_drew ?_))); (case side2 => exact (Kd.R_reads' HO_10.out).2.1); (case side3 => repeat (first | exact (Kd.R_reads' HO248.out).2.2 | (with_reducible refine Kd.C_alloc ?_ _) | (with_reducible refine Kd.C_drewN ?_ _) | (with_reducible refine Kd.C_drew ?_))); (case side4 => exact (Kd.R_reads' HO248.out).2.1); rintro e w111 ⟨rfl, hb⟩; refine ⟨_, rfl, ?_⟩; have n0_ := zA (Kd.R_below (zR HO_8) hb); have n1_ := zA (Kd.R_below (zR HO_10) hb); have n2_ := zA (Kd.R_below (zR HO_11) hb); have n3_ := zA (Kd.R_below (zR HO_12) hb); have n4_ := zA (Kd.R_below (zR HO248) hb); have n5_ := zA (below_step (zW HB) hb); clear HO_8; clear HO_10; clear HO_11; clear HO_12; clear HO248; clear HB; have HO_8 := n0_; have HO_10 := n1_; have HO_11 := n2_; have HO_12 := n3_; have HO248 := n4_; have HB := n5_; clear n0_ n1_ n2_ n3_ n4_ n5_; (try clear hb); (try clear hb2); (try clear hk); (try clear hi)))
       go_ret
       exact ⟨by first | rfl | (simp [errW_none, errW_some] <;> rfl) | (simp [*, errW_none, errW_some] <;> rfl), by repeat (first | (with_reducible first | exact HB.out | apply below_alloc | apply pw_below_drewN | apply below_drew1) | exact HB.out)⟩

end Go.Proofs.YtceiacmieipleaaDoor.G
