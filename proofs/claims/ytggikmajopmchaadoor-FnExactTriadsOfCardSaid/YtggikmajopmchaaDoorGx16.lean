-- Printed by a program of this session (wip/tools/gp.sh); Lean checks it.
import Derived.Test.YtggikmajopmchaaDoorGx0
import Derived.Test.YtggikmajopmchaaDoorGz
import Derived.Test.YtggikmajopmchaaDoorGx3
import Derived.Test.YtggikmajopmchaaDoorGx4
import Derived.Test.YtggikmajopmchaaDoorGx5
import Derived.Test.YtggikmajopmchaaDoorGx6
import Derived.Test.YtggikmajopmchaaDoorGx7
import Derived.Test.YtggikmajopmchaaDoorGx11
import Derived.Test.YtggikmajopmchaaDoorGs0
import Derived.Test.YtggikmajopmchaaDoorGs1
namespace Go.Proofs.YtggikmajopmchaaDoor.G
open Go.RowKit Go.Proofs.YtggikmajopmchaaDoorW.PrintWords Go.Proofs.YtggikmajopmchaaDoorW.PrintLast Go.Proofs.YtggikmajopmchaaDoorW.PrintMore
attribute [local go_sem] isSome_setCell_ max2_int min2_int max_two min_two max_three min_three max_four min_four   -- for this text's walks alone
set_option linter.unusedVariables false
set_option linter.unusedSimpArgs false

theorem cut_len {l : List (List Int)} {m : Int} {r : List (List Int)} (h : gosem_cut.f l m = some r) : r.length = l.length := by
 obtain rfl := Option.some.inj h
 exact marksL_length l m
/-- An elder row of rows and one that a call has made: their blocks lie below and above the heap's size before the call. -/
theorem apart_pair {W w1 : World} {v6 v9 : Value} {x6 x9 : List (List Int)} {ok6 : Nat → Prop} {b : Nat} (h6 : Kd.S (Kd.slice 3 (Kd.int .i64)) 45 W b ok6 v6 x6) (ho : Kd.S (Kd.slice 3 (Kd.int .i64)) 45 w1 W.heap.size (fun _ => True) v9 x9) (hb : Below W.heap.size W w1) (hle : b ≤ W.heap.size) :
  ∃ NN, Kd.S (Kd.slice 3 (Kd.int .i64)) 45 w1 b (fun k_ => k_ < NN) v6 x6 ∧ Kd.S (Kd.slice 3 (Kd.int .i64)) 45 w1 b (fun k_ => NN ≤ k_) v9 x9 :=
 ⟨W.heap.size, Kd.S_mono (Kd.S_old h6 hb) (fun _ hk => hk.2), Kd.S_lower (Kd.S_mono (Kd.S_bound ho) (fun _ hk => hk.2.1)) hle⟩
/-! ### laws_FnExactTriadsOf: function 4 -/
mutual
def laws_FnExactTriadsOf.j0 : Nat → List (S38) → Int → List (List Int) → Bool → List (S42) → List (List Int) → Bool → Bool → Option (Bool)
 | 0, _, _, _, _, _, _, _, _ => none
 | k + 1, x0, x1, x6, x7, x8, x9, x10, x44 => if x44 = true then (some false) else ((laws_toShadeS.f k x0).bind fun t241 => ((laws_eqShadeS.f k x8 t241).bind fun t244 => (if t244 = true then ((laws_markShadeS.f k x8 1).bind fun bt245 => (if bt245.1 < 0 then (laws_FnExactTriadsOf.j1 k x0 x1 x6 x7 x9 true) else ((laws_eqIntSS.f k x9 x6).bind fun t247 => (if t247 = true then (laws_FnExactTriadsOf.j1 k x0 x1 x6 x7 x9 (x10 != x7)) else (laws_FnExactTriadsOf.j1 k x0 x1 x6 x7 x9 true))))) else (some false))))
def laws_FnExactTriadsOf.j1 : Nat → List (S38) → Int → List (List Int) → Bool → List (List Int) → Bool → Option (Bool)
 | 0, _, _, _, _, _, _ => none
 | k + 1, x0, x1, x6, x7, x9, x65 => if x65 = true then (some false) else ((laws_markIntSS.f x9 1).bind fun t248 => ((gosem_cut.f x9 1).bind fun t249 => ((laws_heldIntSS.f k t249 1).bind fun t252 => (if t252 < 0 then (some false) else (if t252 = t248 then ((laws_toShadeS.f k x0).bind fun t253 => ((impl_TriadsOf.f k t253 x1).bind fun bt256 => ((laws_eqIntSS.f k bt256.1 x6).bind fun t260 => (if t260 = true then (laws_FnExactTriadsOf.j2 k t249 t248 (bt256.2 != x7)) else (laws_FnExactTriadsOf.j2 k t249 t248 true))))) else (some false))))))
def laws_FnExactTriadsOf.j2 : Nat → List (List Int) → Int → Bool → Option (Bool)
 | 0, _, _, _ => none
 | k + 1, x9, x12, x92 => if x92 = true then (some false) else ((laws_heldIntSS.f k x9 1).bind fun t261 => (if t261 < 0 then (some false) else (if t261 = x12 then (some true) else (some false))))
end
def laws_FnExactTriadsOf.f (k : Nat) (l0 : List (S38)) (a1 : Int) : Option (Bool) := (laws_szShadeS.f k l0 1048576).bind fun t225 => (if t225 < 0 then (some true) else ((laws_toShadeS.f k l0).bind fun t226 => ((spec_TriadsOf.f k t226 a1).bind fun bt229 => ((laws_toShadeS.f k l0).bind fun t233 => ((impl_TriadsOf.f k t233 a1).bind fun bt236 => ((laws_eqIntSS.f k bt236.1 bt229.1).bind fun t240 => (if t240 = true then (laws_FnExactTriadsOf.j0 k l0 a1 bt229.1 bt229.2 t233 bt236.1 bt236.2 (bt236.2 != bt229.2)) else (laws_FnExactTriadsOf.j0 k l0 a1 bt229.1 bt229.2 t233 bt236.1 bt236.2 true))))))))
theorem laws_FnExactTriadsOf.mono_l : ∀ k, (∀ y0 y1 y2 y3 y4 y5 y6 y7, LeO (laws_FnExactTriadsOf.j0 k y0 y1 y2 y3 y4 y5 y6 y7) (laws_FnExactTriadsOf.j0 (k + 1) y0 y1 y2 y3 y4 y5 y6 y7)) ∧ (∀ y0 y1 y2 y3 y4 y5, LeO (laws_FnExactTriadsOf.j1 k y0 y1 y2 y3 y4 y5) (laws_FnExactTriadsOf.j1 (k + 1) y0 y1 y2 y3 y4 y5)) ∧ (∀ y0 y1 y2, LeO (laws_FnExactTriadsOf.j2 k y0 y1 y2) (laws_FnExactTriadsOf.j2 (k + 1) y0 y1 y2))
 | 0 => ⟨fun _ _ _ _ _ _ _ _ r h => by simp [laws_FnExactTriadsOf.j0] at h, fun _ _ _ _ _ _ r h => by simp [laws_FnExactTriadsOf.j1] at h, fun _ _ _ r h => by simp [laws_FnExactTriadsOf.j2] at h⟩
 | k + 1 => by
  obtain ⟨ih0, ih1, ih2⟩ := laws_FnExactTriadsOf.mono_l k
  refine ⟨?_, ?_, ?_⟩
  ·intro y0 y1 y2 y3 y4 y5 y6 y7
   unfold laws_FnExactTriadsOf.j0
   repeat' first
   | (with_reducible exact ih0 _ _ _ _ _ _ _ _)
   | (with_reducible exact ih1 _ _ _ _ _ _)
   | (with_reducible exact ih2 _ _ _)
   | (with_reducible exact impl_TriadsOf.mono _ _ _)
   | (with_reducible exact laws_eqIntSS.mono _ _ _)
   | (with_reducible exact laws_eqShadeS.mono _ _ _)
   | (with_reducible exact laws_heldIntSS.mono _ _ _)
   | (with_reducible exact laws_markShadeS.mono _ _ _)
   | (with_reducible exact laws_szShadeS.mono _ _ _)
   | (with_reducible exact laws_toShadeS.mono _ _)
   | (with_reducible exact spec_TriadsOf.mono _ _ _)
   | (with_reducible exact LeO.refl _)
   | (with_reducible exact LeO.none _)
   | (with_reducible refine LeO.ite ?_ ?_)
   | (with_reducible refine LeO.bind ?_ (fun _ => ?_))
   | exact ih0 _ _ _ _ _ _ _ _
   | exact ih1 _ _ _ _ _ _
   | exact ih2 _ _ _
   | exact impl_TriadsOf.mono _ _ _
   | exact laws_eqIntSS.mono _ _ _
   | exact laws_eqShadeS.mono _ _ _
   | exact laws_heldIntSS.mono _ _ _
   | exact laws_markShadeS.mono _ _ _
   | exact laws_szShadeS.mono _ _ _
   | exact laws_toShadeS.mono _ _
   | exact spec_TriadsOf.mono _ _ _
   | exact LeO.none _
   | refine LeO.ite ?_ ?_
   | refine LeO.bind ?_ (fun _ => ?_)
  ·intro y0 y1 y2 y3 y4 y5
   unfold laws_FnExactTriadsOf.j1
   repeat' first
   | (with_reducible exact ih0 _ _ _ _ _ _ _ _)
   | (with_reducible exact ih1 _ _ _ _ _ _)
   | (with_reducible exact ih2 _ _ _)
   | (with_reducible exact impl_TriadsOf.mono _ _ _)
   | (with_reducible exact laws_eqIntSS.mono _ _ _)
   | (with_reducible exact laws_eqShadeS.mono _ _ _)
   | (with_reducible exact laws_heldIntSS.mono _ _ _)
   | (with_reducible exact laws_markShadeS.mono _ _ _)
   | (with_reducible exact laws_szShadeS.mono _ _ _)
   | (with_reducible exact laws_toShadeS.mono _ _)
   | (with_reducible exact spec_TriadsOf.mono _ _ _)
   | (with_reducible exact LeO.refl _)
   | (with_reducible exact LeO.none _)
   | (with_reducible refine LeO.ite ?_ ?_)
   | (with_reducible refine LeO.bind ?_ (fun _ => ?_))
   | exact ih0 _ _ _ _ _ _ _ _
   | exact ih1 _ _ _ _ _ _
   | exact ih2 _ _ _
   | exact impl_TriadsOf.mono _ _ _
   | exact laws_eqIntSS.mono _ _ _
   | exact laws_eqShadeS.mono _ _ _
   | exact laws_heldIntSS.mono _ _ _
   | exact laws_markShadeS.mono _ _ _
   | exact laws_szShadeS.mono _ _ _
   | exact laws_toShadeS.mono _ _
   | exact spec_TriadsOf.mono _ _ _
   | exact LeO.none _
   | refine LeO.ite ?_ ?_
   | refine LeO.bind ?_ (fun _ => ?_)
  ·intro y0 y1 y2
   unfold laws_FnExactTriadsOf.j2
   repeat' first
   | (with_reducible exact ih0 _ _ _ _ _ _ _ _)
   | (with_reducible exact ih1 _ _ _ _ _ _)
   | (with_reducible exact ih2 _ _ _)
   | (with_reducible exact impl_TriadsOf.mono _ _ _)
   | (with_reducible exact laws_eqIntSS.mono _ _ _)
   | (with_reducible exact laws_eqShadeS.mono _ _ _)
   | (with_reducible exact laws_heldIntSS.mono _ _ _)
   | (with_reducible exact laws_markShadeS.mono _ _ _)
   | (with_reducible exact laws_szShadeS.mono _ _ _)
   | (with_reducible exact laws_toShadeS.mono _ _)
   | (with_reducible exact spec_TriadsOf.mono _ _ _)
   | (with_reducible exact LeO.refl _)
   | (with_reducible exact LeO.none _)
   | (with_reducible refine LeO.ite ?_ ?_)
   | (with_reducible refine LeO.bind ?_ (fun _ => ?_))
   | exact ih0 _ _ _ _ _ _ _ _
   | exact ih1 _ _ _ _ _ _
   | exact ih2 _ _ _
   | exact impl_TriadsOf.mono _ _ _
   | exact laws_eqIntSS.mono _ _ _
   | exact laws_eqShadeS.mono _ _ _
   | exact laws_heldIntSS.mono _ _ _
   | exact laws_markShadeS.mono _ _ _
   | exact laws_szShadeS.mono _ _ _
   | exact laws_toShadeS.mono _ _
   | exact spec_TriadsOf.mono _ _ _
   | exact LeO.none _
   | refine LeO.ite ?_ ?_
   | refine LeO.bind ?_ (fun _ => ?_)
theorem laws_FnExactTriadsOf.mono : ∀ a0 a1 k, LeO (laws_FnExactTriadsOf.f k a0 a1) (laws_FnExactTriadsOf.f (k + 1) a0 a1) := by
 intro a0 a1 k
 obtain ⟨ih0, ih1, ih2⟩ := laws_FnExactTriadsOf.mono_l k
 unfold laws_FnExactTriadsOf.f
 repeat' first
   | (with_reducible exact ih0 _ _ _ _ _ _ _ _)
   | (with_reducible exact ih1 _ _ _ _ _ _)
   | (with_reducible exact ih2 _ _ _)
   | (with_reducible exact impl_TriadsOf.mono _ _ _)
   | (with_reducible exact laws_eqIntSS.mono _ _ _)
   | (with_reducible exact laws_eqShadeS.mono _ _ _)
   | (with_reducible exact laws_heldIntSS.mono _ _ _)
   | (with_reducible exact laws_markShadeS.mono _ _ _)
   | (with_reducible exact laws_szShadeS.mono _ _ _)
   | (with_reducible exact laws_toShadeS.mono _ _)
   | (with_reducible exact spec_TriadsOf.mono _ _ _)
   | (with_reducible exact LeO.refl _)
   | (with_reducible exact LeO.none _)
   | (with_reducible refine LeO.ite ?_ ?_)
   | (with_reducible refine LeO.bind ?_ (fun _ => ?_))
   | exact ih0 _ _ _ _ _ _ _ _
   | exact ih1 _ _ _ _ _ _
   | exact ih2 _ _ _
   | exact impl_TriadsOf.mono _ _ _
   | exact laws_eqIntSS.mono _ _ _
   | exact laws_eqShadeS.mono _ _ _
   | exact laws_heldIntSS.mono _ _ _
   | exact laws_markShadeS.mono _ _ _
   | exact laws_szShadeS.mono _ _ _
   | exact laws_toShadeS.mono _ _
   | exact spec_TriadsOf.mono _ _ _
   | exact LeO.none _
   | refine LeO.ite ?_ ?_
   | refine LeO.bind ?_ (fun _ => ?_)
set_option maxHeartbeats 8000000 in
set_option maxRecDepth 100000 in
theorem laws_FnExactTriadsOf.calls (k : Nat) (A0 : Option Addr) (c0 : Nat) (l0 : List (S38)) (a1 : Int) (r : Bool) (w : World) (hr0 : Kd.C k38 w A0 l0.length l0) (hc0 : l0.length ≤ c0) (h : laws_FnExactTriadsOf.f k l0 a1 = some r) :
  Calls Tryd.prog 4 #[.slice A0 l0.length c0, .int .i64 a1] w fun e w' => e = .returned (.bool r) ∧ Below w.heap.size w w' := by
 have HR0 := zA hr0; have HC0 := zA hc0; clear hr0 hc0; have HB := zA (Below.refl w.heap.size w); have H : ((laws_szShadeS.f k l0 1048576).bind fun t225 => (if t225 < 0 then (some true) else ((laws_toShadeS.f k l0).bind fun t226 => ((spec_TriadsOf.f k t226 a1).bind fun bt229 => ((laws_toShadeS.f k l0).bind fun t233 => ((impl_TriadsOf.f k t233 a1).bind fun bt236 => ((laws_eqIntSS.f k bt236.1 bt229.1).bind fun t240 => (if t240 = true then (laws_FnExactTriadsOf.j0 k l0 a1 bt229.1 bt229.2 t233 bt236.1 bt236.2 (bt236.2 != bt229.2)) else (laws_FnExactTriadsOf.j0 k l0 a1 bt229.1 bt229.2 t233 bt236.1 bt236.2 true))))))))) = some r := h; clear h
 replace H := Option.bind_eq_some_iff.mp H
 obtain ⟨t225, A30, H⟩ := H
 replace H : (if t225 < 0 then (some true) else ((laws_toShadeS.f k l0).bind fun t226 => ((spec_TriadsOf.f k t226 a1).bind fun bt229 => ((laws_toShadeS.f k l0).bind fun t233 => ((impl_TriadsOf.f k t233 a1).bind fun bt236 => ((laws_eqIntSS.f k bt236.1 bt229.1).bind fun t240 => (if t240 = true then (laws_FnExactTriadsOf.j0 k l0 a1 bt229.1 bt229.2 t233 bt236.1 bt236.2 (bt236.2 != bt229.2)) else (laws_FnExactTriadsOf.j0 k l0 a1 bt229.1 bt229.2 t233 bt236.1 bt236.2 true)))))))) = some r := H
 have A3 := zA A30; clear A30
 by_cases c4 : t225 < 0
 ·rw [if_pos c4] at H
  have c4b0 : decide (t225 < 0) = true := decide_eq_true c4; clear c4
  obtain rfl := Option.some.inj H
  go_enter Tryd.func4, Tryd.ntmps4
  go_wp2_with (first | ((with_reducible refine gate_callee (f := 5) rfl ?_); refine goesL_ (some 18) rfl rfl Tryd.func5 (by kernel_rfl) rfl #[.slice A0 l0.length c0, .int .i64 1048576] rfl (zM) ?_; (with_reducible refine (laws_szShadeS.calls k _ _ l0 1048576 t225 _ ?side1 ?side2 A3.out).mono ?_); (case side1 => repeat (first | exact HR0.out | (with_reducible refine Kd.C_alloc ?_ _) | (with_reducible refine Kd.C_drewN ?_ _) | (with_reducible refine Kd.C_drew ?_))); (case side2 => exact HC0.out); rintro e w5 ⟨rfl, hb⟩; refine ⟨_, rfl, ?_⟩; have n0_ := zA (below_step (zW HB) hb); clear HB; have HB := n0_; clear n0_; (try clear hb); (try clear hb2); (try clear hk); (try clear hi)))
  go_ret
  exact ⟨by first | rfl | (simp [errW_none, errW_some] <;> rfl) | (simp [*, errW_none, errW_some] <;> rfl), by repeat (first | (with_reducible first | exact HB.out | apply below_alloc | apply pw_below_drewN | apply below_drew1) | exact HB.out)⟩
 ·rw [if_neg c4] at H
  have c4b0 : decide (t225 < 0) = false := decide_eq_false c4; clear c4
  replace H := Option.bind_eq_some_iff.mp H
  obtain ⟨t226, A60, H⟩ := H
  replace H : ((spec_TriadsOf.f k t226 a1).bind fun bt229 => ((laws_toShadeS.f k l0).bind fun t233 => ((impl_TriadsOf.f k t233 a1).bind fun bt236 => ((laws_eqIntSS.f k bt236.1 bt229.1).bind fun t240 => (if t240 = true then (laws_FnExactTriadsOf.j0 k l0 a1 bt229.1 bt229.2 t233 bt236.1 bt236.2 (bt236.2 != bt229.2)) else (laws_FnExactTriadsOf.j0 k l0 a1 bt229.1 bt229.2 t233 bt236.1 bt236.2 true)))))) = some r := H
  have A6 := zA A60; clear A60
  replace H := Option.bind_eq_some_iff.mp H
  obtain ⟨⟨t229, t230⟩, A70, H⟩ := H
  replace H : ((laws_toShadeS.f k l0).bind fun t233 => ((impl_TriadsOf.f k t233 a1).bind fun bt236 => ((laws_eqIntSS.f k bt236.1 t229).bind fun t240 => (if t240 = true then (laws_FnExactTriadsOf.j0 k l0 a1 t229 t230 t233 bt236.1 bt236.2 (bt236.2 != t230)) else (laws_FnExactTriadsOf.j0 k l0 a1 t229 t230 t233 bt236.1 bt236.2 true))))) = some r := H
  have A7 := zA A70; clear A70
  replace H := Option.bind_eq_some_iff.mp H
  obtain ⟨t233, A80, H⟩ := H
  replace H : ((impl_TriadsOf.f k t233 a1).bind fun bt236 => ((laws_eqIntSS.f k bt236.1 t229).bind fun t240 => (if t240 = true then (laws_FnExactTriadsOf.j0 k l0 a1 t229 t230 t233 bt236.1 bt236.2 (bt236.2 != t230)) else (laws_FnExactTriadsOf.j0 k l0 a1 t229 t230 t233 bt236.1 bt236.2 true)))) = some r := H
  have A8 := zA A80; clear A80
  replace H := Option.bind_eq_some_iff.mp H
  obtain ⟨⟨t236, t237⟩, A90, H⟩ := H
  replace H : ((laws_eqIntSS.f k t236 t229).bind fun t240 => (if t240 = true then (laws_FnExactTriadsOf.j0 k l0 a1 t229 t230 t233 t236 t237 (t237 != t230)) else (laws_FnExactTriadsOf.j0 k l0 a1 t229 t230 t233 t236 t237 true))) = some r := H
  have A9 := zA A90; clear A90; have HC10 := zA H; clear H
  go_enter Tryd.func4, Tryd.ntmps4
  go_upto_region 8 with (first | ((with_reducible refine gate_callee (f := 5) rfl ?_); refine goesL_ (some 18) rfl rfl Tryd.func5 (by kernel_rfl) rfl #[.slice A0 l0.length c0, .int .i64 1048576] rfl (zM) ?_; (with_reducible refine (laws_szShadeS.calls k _ _ l0 1048576 t225 _ ?side1 ?side2 A3.out).mono ?_); (case side1 => repeat (first | exact HR0.out | (with_reducible refine Kd.C_alloc ?_ _) | (with_reducible refine Kd.C_drewN ?_ _) | (with_reducible refine Kd.C_drew ?_))); (case side2 => exact HC0.out); rintro e w11 ⟨rfl, hb⟩; refine ⟨_, rfl, ?_⟩; have n0_ := zA (below_step (zW HB) hb); clear HB; have HB := n0_; clear n0_; (try clear hb); (try clear hb2); (try clear hk); (try clear hi)) | ((with_reducible refine gate_callee (f := 7) rfl ?_); refine goesL_ (some 23) rfl rfl Tryd.func7 (by kernel_rfl) rfl #[.slice A0 l0.length c0] rfl (zM) ?_; (with_reducible refine (laws_toShadeS.calls k _ _ l0 t226 _ ?side1 ?side2 A6.out).mono ?_); (case side1 => repeat (first | exact (Kd.C_below HR0.out HB.out) | (with_reducible refine Kd.C_alloc ?_ _) | (with_reducible refine Kd.C_drewN ?_ _) | (with_reducible refine Kd.C_drew ?_))); (case side2 => exact HC0.out); rintro e w12 ⟨v227, rfl, ho0, hb⟩; refine ⟨_, rfl, ?_⟩; have n0_ := zA (Kd.R_lower ho0 (below_size (zW HB))); have n1_ := zA (below_step (zW HB) hb); clear HB; have HO228 := n0_; have HB := n1_; clear n0_ n1_; (try clear hb); (try clear hb2); (try clear hk); (try clear hi); (try clear ho0); obtain ⟨Ao13, co13, eo13⟩ := Kd.R_slice HO228.out; subst eo13) | ((with_reducible refine gate_callee (f := 14) rfl ?_); refine goesL_ (some 25) rfl rfl Tryd.func14 (by kernel_rfl) rfl #[.slice Ao13 t226.length co13, .int .i64 a1] rfl (zM) ?_; (with_reducible refine (spec_TriadsOf.calls k _ _ t226 a1 t229 t230 _ ?side1 ?side2 A7.out).mono ?_); (case side1 => repeat (first | exact (Kd.R_reads' HO228.out).2.2 | (with_reducible refine Kd.C_alloc ?_ _) | (with_reducible refine Kd.C_drewN ?_ _) | (with_reducible refine Kd.C_drew ?_))); (case side2 => exact (Kd.R_reads' HO228.out).2.1); rintro e w14 ⟨v231, rfl, ho0, hb⟩; refine ⟨_, rfl, ?_⟩; have n0_ := zA (Kd.R_below (zR HO228) hb); have n1_ := zA (Kd.S_lower ho0 (below_size (zW HB))); have n2_ := zA (below_step (zW HB) hb); clear HO228; clear HB; have HO228 := n0_; have HO232 := n1_; have HB := n2_; clear n0_ n1_ n2_; (try clear hb); (try clear hb2); (try clear hk); (try clear hi); (try clear ho0)) | ((with_reducible refine gate_callee (f := 7) rfl ?_); refine goesL_ (some 29) rfl rfl Tryd.func7 (by kernel_rfl) rfl #[.slice A0 l0.length c0] rfl (zM) ?_; (with_reducible refine (laws_toShadeS.calls k _ _ l0 t233 _ ?side1 ?side2 A8.out).mono ?_); (case side1 => repeat (first | exact (Kd.C_below HR0.out HB.out) | (with_reducible refine Kd.C_alloc ?_ _) | (with_reducible refine Kd.C_drewN ?_ _) | (with_reducible refine Kd.C_drew ?_))); (case side2 => exact HC0.out); rintro e w15 ⟨v234, rfl, ho0, hb⟩; refine ⟨_, rfl, ?_⟩; have n0_ := zA (Kd.R_elder' (zR HO228) (Kd.R_base ho0) hb); have n1_ := zA (Kd.S_below (by (with_reducible repeat (first | apply Kd.S_alloc | apply Kd.S_drewN | apply Kd.S_drew)); exact HO232.out) hb); have n2_ := zA (Kd.R_lower (Kd.R_new' ho0 (Kd.R_lt (zR HO228))) (below_size (zW HB))); have n3_ := zA (below_step (zW HB) hb); clear HO228; clear HO232; clear HB; have HO228 := n0_; have HO232 := n1_; have HO235 := n2_; have HB := n3_; clear n0_ n1_ n2_ n3_; (try clear hb); (try clear hb2); (try clear hk); (try clear hi); (try clear ho0); obtain ⟨Ao16, co16, eo16⟩ := Kd.R_slice HO235.out; subst eo16) | ((with_reducible refine gate_callee (f := 15) rfl ?_); refine goesL_ (some 33) rfl rfl Tryd.func15 (by kernel_rfl) rfl #[.slice Ao16 t233.length co16, .int .i64 a1] rfl (zM) ?_; (with_reducible refine (impl_TriadsOf.calls k _ _ t233 a1 t236 t237 _ ?side1 ?side2 A9.out).mono ?_); (case side1 => repeat (first | exact (Kd.R_reads' HO235.out).2.2 | (with_reducible refine Kd.C_alloc ?_ _) | (with_reducible refine Kd.C_drewN ?_ _) | (with_reducible refine Kd.C_drew ?_))); (case side2 => exact (Kd.R_reads' HO235.out).2.1); rintro e w17 ⟨v238, rfl, ho0, hb⟩; refine ⟨_, rfl, ?_⟩; have n0_ := zA (Kd.R_below (zR HO228) hb); obtain ⟨NN, hA6_, hA9_⟩ := apart_pair (by (with_reducible repeat (first | apply Kd.S_alloc | apply Kd.S_drewN | apply Kd.S_drew)); exact HO232.out) ho0 hb (below_size (zW HB)); have n1_ := zA hA6_; have n2_ := zA (Kd.R_below (zR HO235) hb); have n3_ := zA hA9_; have n4_ := zA (below_step (zW HB) hb); clear HO228; clear HO232; clear HO235; clear HB; have HO228 := n0_; have HO232 := n1_; have HO235 := n2_; have HO239 := n3_; have HB := n4_; clear n0_ n1_ n2_ n3_ n4_; (try clear hb); (try clear hb2); (try clear hk); (try clear hi); (try clear hA6_); (try clear hA9_); (try clear ho0)))
  (try simp only [Act.put, List.setIfInBounds_toArray, List.set_cons_zero, List.set_cons_succ])
  go_cut [44] (fun v44 wc => ∃ (kq : Nat) (x44_9 : Bool), v44 = .bool x44_9 ∧ Aside0 (laws_FnExactTriadsOf.j0 kq l0 a1 t229 t230 t233 t236 t237 x44_9 = some r) ∧ Aside0 (kq ≤ k) ∧ Aside0 (Kd.S (Kd.slice 3 (Kd.int .i64)) 45 wc w.heap.size (fun k_ => k_ < NN) v231 t229) ∧ Aside0 (Kd.R k42 42 wc w.heap.size (fun _ => True) (.slice Ao16 t233.length co16) t233) ∧ Aside0 (Kd.S (Kd.slice 3 (Kd.int .i64)) 45 wc w.heap.size (fun k_ => NN ≤ k_) v238 t236) ∧ Aside0 (Below w.heap.size w wc))
  case first =>
   have H := HC10.out; clear HC10
   replace H := Option.bind_eq_some_iff.mp H
   obtain ⟨t240, A180, H⟩ := H
   replace H : (if t240 = true then (laws_FnExactTriadsOf.j0 k l0 a1 t229 t230 t233 t236 t237 (t237 != t230)) else (laws_FnExactTriadsOf.j0 k l0 a1 t229 t230 t233 t236 t237 true)) = some r := H
   have A18 := zA A180; clear A180
   by_cases c19 : t240 = true
   ·subst c19
    have H1 : (laws_FnExactTriadsOf.j0 k l0 a1 t229 t230 t233 t236 t237 (t237 != t230)) = some r := by rw [if_pos rfl] at H; exact H
    clear H; have H := H1; clear H1; have H' := zA H; clear H
    obtain ⟨Ao20, co20, eo20⟩ := Kd.S_slice HO239.out
    subst eo20
    obtain ⟨Ao21, co21, eo21⟩ := Kd.S_slice HO232.out
    subst eo21
    go_wp2_with (first | ((with_reducible refine gate_callee (f := 9) rfl ?_); refine goesL_ (some 38) rfl rfl Tryd.func9 (by kernel_rfl) rfl #[.slice Ao20 t236.length co20, .slice Ao21 t229.length co21] rfl (zM) ?_; (with_reducible refine (laws_eqIntSS.calls k _ _ t236 _ _ t229 true _ ?side1 ?side2 ?side3 ?side4 A18.out).mono ?_); (case side1 => repeat (first | exact (Kd.S_reads' HO239.out).2.2 | (with_reducible refine Kd.C_alloc ?_ _) | (with_reducible refine Kd.C_drewN ?_ _) | (with_reducible refine Kd.C_drew ?_))); (case side2 => exact (Kd.S_reads' HO239.out).2.1); (case side3 => repeat (first | exact (Kd.S_reads' HO232.out).2.2 | (with_reducible refine Kd.C_alloc ?_ _) | (with_reducible refine Kd.C_drewN ?_ _) | (with_reducible refine Kd.C_drew ?_))); (case side4 => exact (Kd.S_reads' HO232.out).2.1); rintro e w' ⟨rfl, ⟨nd, rfl⟩⟩; refine ⟨_, rfl, ?_⟩))
    go_meet
    case rel => exact ⟨_, ((t237 != t230)), (by first | rfl | (simp; done) | (simp [*]; done)), H', ⟨by first | omega | exact Nat.le_refl _⟩, ⟨by (with_reducible repeat (first | apply Kd.S_alloc | apply Kd.S_drewN | apply Kd.S_drew)); exact HO232.out⟩, ⟨by (with_reducible repeat (first | apply Kd.R_alloc | apply Kd.R_drewN | apply Kd.R_drew)); exact Kd.R_mono HO235.out (fun _ hk => trivial)⟩, ⟨by (with_reducible repeat (first | apply Kd.S_alloc | apply Kd.S_drewN | apply Kd.S_drew)); exact HO239.out⟩, ⟨by repeat (first | (with_reducible first | exact HB.out | apply below_alloc | apply pw_below_drewN | apply below_drew1) | exact HB.out)⟩⟩
   ·replace c19 := Bool.eq_false_iff.mpr c19
    subst c19
    have H1 : (laws_FnExactTriadsOf.j0 k l0 a1 t229 t230 t233 t236 t237 true) = some r := by rw [if_neg (show ¬ (false = true) by decide)] at H; exact H
    clear H; have H := H1; clear H1; have H' := zA H; clear H
    obtain ⟨Ao22, co22, eo22⟩ := Kd.S_slice HO239.out
    subst eo22
    obtain ⟨Ao23, co23, eo23⟩ := Kd.S_slice HO232.out
    subst eo23
    go_wp2_with (first | ((with_reducible refine gate_callee (f := 9) rfl ?_); refine goesL_ (some 38) rfl rfl Tryd.func9 (by kernel_rfl) rfl #[.slice Ao22 t236.length co22, .slice Ao23 t229.length co23] rfl (zM) ?_; (with_reducible refine (laws_eqIntSS.calls k _ _ t236 _ _ t229 false _ ?side1 ?side2 ?side3 ?side4 A18.out).mono ?_); (case side1 => repeat (first | exact (Kd.S_reads' HO239.out).2.2 | (with_reducible refine Kd.C_alloc ?_ _) | (with_reducible refine Kd.C_drewN ?_ _) | (with_reducible refine Kd.C_drew ?_))); (case side2 => exact (Kd.S_reads' HO239.out).2.1); (case side3 => repeat (first | exact (Kd.S_reads' HO232.out).2.2 | (with_reducible refine Kd.C_alloc ?_ _) | (with_reducible refine Kd.C_drewN ?_ _) | (with_reducible refine Kd.C_drew ?_))); (case side4 => exact (Kd.S_reads' HO232.out).2.1); rintro e w' ⟨rfl, ⟨nd, rfl⟩⟩; refine ⟨_, rfl, ?_⟩))
    go_meet
    case rel => exact ⟨_, (true), (by first | rfl | (simp; done) | (simp [*]; done)), H', ⟨by first | omega | exact Nat.le_refl _⟩, ⟨by (with_reducible repeat (first | apply Kd.S_alloc | apply Kd.S_drewN | apply Kd.S_drew)); exact HO232.out⟩, ⟨by (with_reducible repeat (first | apply Kd.R_alloc | apply Kd.R_drewN | apply Kd.R_drew)); exact Kd.R_mono HO235.out (fun _ hk => trivial)⟩, ⟨by (with_reducible repeat (first | apply Kd.S_alloc | apply Kd.S_drewN | apply Kd.S_drew)); exact HO239.out⟩, ⟨by repeat (first | (with_reducible first | exact HB.out | apply below_alloc | apply pw_below_drewN | apply below_drew1) | exact HB.out)⟩⟩
  case rest =>
   clear HC10
   try clear c1; try clear p2; try clear c4; try clear c4b0; try clear c5; try clear c7; try clear c9; try clear c14; try clear c15; try clear c19
   obtain ⟨kq, x44_9, rfl, HA, HJ9, HO_6, HO_8, HO_9, HB⟩ := hcut
   cases kq with
   | zero => exact absurd HA.out (by simp [laws_FnExactTriadsOf.j0])
   | succ kj9 =>
    have H := HA.out; clear HA
    simp only [laws_FnExactTriadsOf.j0] at H
    by_cases c24 : x44_9 = true
    ·subst c24
     have H1 : (some false) = some r := by rw [if_pos rfl] at H; exact H
     clear H; have H := H1; clear H1
     obtain rfl := Option.some.inj H
     go_wp2
     go_ret
     exact ⟨by first | rfl | (simp [errW_none, errW_some] <;> rfl) | (simp [*, errW_none, errW_some] <;> rfl), by repeat (first | (with_reducible first | exact HB.out | apply below_alloc | apply pw_below_drewN | apply below_drew1) | exact HB.out)⟩
    ·replace c24 := Bool.eq_false_iff.mpr c24
     subst c24
     have H1 : ((laws_toShadeS.f kj9 l0).bind fun t241 => ((laws_eqShadeS.f kj9 t233 t241).bind fun t244 => (if t244 = true then ((laws_markShadeS.f kj9 t233 1).bind fun bt245 => (if bt245.1 < 0 then (laws_FnExactTriadsOf.j1 kj9 l0 a1 t229 t230 t236 true) else ((laws_eqIntSS.f kj9 t236 t229).bind fun t247 => (if t247 = true then (laws_FnExactTriadsOf.j1 kj9 l0 a1 t229 t230 t236 (t237 != t230)) else (laws_FnExactTriadsOf.j1 kj9 l0 a1 t229 t230 t236 true))))) else (some false)))) = some r := by rw [if_neg (show ¬ (false = true) by decide)] at H; exact H
     clear H; have H := H1; clear H1
     replace H := Option.bind_eq_some_iff.mp H
     obtain ⟨t241, A250, H⟩ := H
     replace H : ((laws_eqShadeS.f kj9 t233 t241).bind fun t244 => (if t244 = true then ((laws_markShadeS.f kj9 t233 1).bind fun bt245 => (if bt245.1 < 0 then (laws_FnExactTriadsOf.j1 kj9 l0 a1 t229 t230 t236 true) else ((laws_eqIntSS.f kj9 t236 t229).bind fun t247 => (if t247 = true then (laws_FnExactTriadsOf.j1 kj9 l0 a1 t229 t230 t236 (t237 != t230)) else (laws_FnExactTriadsOf.j1 kj9 l0 a1 t229 t230 t236 true))))) else (some false))) = some r := H
     have A25 := zA A250; clear A250
     replace H := Option.bind_eq_some_iff.mp H
     obtain ⟨t244, A260, H⟩ := H
     replace H : (if t244 = true then ((laws_markShadeS.f kj9 t233 1).bind fun bt245 => (if bt245.1 < 0 then (laws_FnExactTriadsOf.j1 kj9 l0 a1 t229 t230 t236 true) else ((laws_eqIntSS.f kj9 t236 t229).bind fun t247 => (if t247 = true then (laws_FnExactTriadsOf.j1 kj9 l0 a1 t229 t230 t236 (t237 != t230)) else (laws_FnExactTriadsOf.j1 kj9 l0 a1 t229 t230 t236 true))))) else (some false)) = some r := H
     have A26 := zA A260; clear A260
     by_cases c27 : t244 = true
     ·subst c27
      have H1 : ((laws_markShadeS.f kj9 t233 1).bind fun bt245 => (if bt245.1 < 0 then (laws_FnExactTriadsOf.j1 kj9 l0 a1 t229 t230 t236 true) else ((laws_eqIntSS.f kj9 t236 t229).bind fun t247 => (if t247 = true then (laws_FnExactTriadsOf.j1 kj9 l0 a1 t229 t230 t236 (t237 != t230)) else (laws_FnExactTriadsOf.j1 kj9 l0 a1 t229 t230 t236 true))))) = some r := by rw [if_pos rfl] at H; exact H
      clear H; have H := H1; clear H1
      replace H := Option.bind_eq_some_iff.mp H
      obtain ⟨⟨t245, t246⟩, A280, H⟩ := H
      replace H : (if t245 < 0 then (laws_FnExactTriadsOf.j1 kj9 l0 a1 t229 t230 t236 true) else ((laws_eqIntSS.f kj9 t236 t229).bind fun t247 => (if t247 = true then (laws_FnExactTriadsOf.j1 kj9 l0 a1 t229 t230 t236 (t237 != t230)) else (laws_FnExactTriadsOf.j1 kj9 l0 a1 t229 t230 t236 true)))) = some r := H
      have A28 := zA A280; clear A280; have HC29 := zA H; clear H
      go_upto_region 14 with (first | ((with_reducible refine gate_callee (f := 7) rfl ?_); refine goesL_ (some 47) rfl rfl Tryd.func7 (by kernel_rfl) rfl #[.slice A0 l0.length c0] rfl (zM) ?_; (with_reducible refine (laws_toShadeS.calls kj9 _ _ l0 t241 _ ?side1 ?side2 A25.out).mono ?_); (case side1 => repeat (first | exact (Kd.C_below HR0.out HB.out) | (with_reducible refine Kd.C_alloc ?_ _) | (with_reducible refine Kd.C_drewN ?_ _) | (with_reducible refine Kd.C_drew ?_))); (case side2 => exact HC0.out); rintro e w30 ⟨v242, rfl, ho0, hb⟩; refine ⟨_, rfl, ?_⟩; have n0_ := zA (Kd.S_below (by (with_reducible repeat (first | apply Kd.S_alloc | apply Kd.S_drewN | apply Kd.S_drew)); exact HO_6.out) hb); have n1_ := zA (Kd.R_elder' (zR HO_8) (Kd.R_base ho0) hb); have n2_ := zA (Kd.S_below (by (with_reducible repeat (first | apply Kd.S_alloc | apply Kd.S_drewN | apply Kd.S_drew)); exact HO_9.out) hb); have n3_ := zA (Kd.R_lower (Kd.R_new' ho0 (Kd.R_lt (zR HO_8))) (below_size (zW HB))); have n4_ := zA (below_step (zW HB) hb); clear HO_6; clear HO_8; clear HO_9; clear HB; have HO_6 := n0_; have HO_8 := n1_; have HO_9 := n2_; have HO243 := n3_; have HB := n4_; clear n0_ n1_ n2_ n3_ n4_; (try clear hb); (try clear hb2); (try clear hk); (try clear hi); (try clear ho0); obtain ⟨Ao31, co31, eo31⟩ := Kd.R_slice HO243.out; subst eo31) | ((with_reducible refine gate_callee (f := 10) rfl ?_); refine goesL_ (some 48) rfl rfl Tryd.func10 (by kernel_rfl) rfl #[.slice Ao16 t233.length co16, .slice Ao31 t241.length co31] rfl (zM) ?_; (with_reducible refine (laws_eqShadeS.calls kj9 _ _ t233 _ _ t241 true _ ?side1 ?side2 ?side3 ?side4 A26.out).mono ?_); (case side1 => repeat (first | exact (Kd.R_reads' HO_8.out).2.2 | (with_reducible refine Kd.C_alloc ?_ _) | (with_reducible refine Kd.C_drewN ?_ _) | (with_reducible refine Kd.C_drew ?_))); (case side2 => exact (Kd.R_reads' HO_8.out).2.1); (case side3 => repeat (first | exact (Kd.R_reads' HO243.out).2.2 | (with_reducible refine Kd.C_alloc ?_ _) | (with_reducible refine Kd.C_drewN ?_ _) | (with_reducible refine Kd.C_drew ?_))); (case side4 => exact (Kd.R_reads' HO243.out).2.1); rintro e w32 ⟨rfl, hb⟩; refine ⟨_, rfl, ?_⟩; have n0_ := zA (Kd.S_below (by (with_reducible repeat (first | apply Kd.S_alloc | apply Kd.S_drewN | apply Kd.S_drew)); exact HO_6.out) hb); have n1_ := zA (Kd.R_below (zR HO_8) hb); have n2_ := zA (Kd.S_below (by (with_reducible repeat (first | apply Kd.S_alloc | apply Kd.S_drewN | apply Kd.S_drew)); exact HO_9.out) hb); have n3_ := zA (Kd.R_below (zR HO243) hb); have n4_ := zA (below_step (zW HB) hb); clear HO_6; clear HO_8; clear HO_9; clear HO243; clear HB; have HO_6 := n0_; have HO_8 := n1_; have HO_9 := n2_; have HO243 := n3_; have HB := n4_; clear n0_ n1_ n2_ n3_ n4_; (try clear hb); (try clear hb2); (try clear hk); (try clear hi)) | ((with_reducible refine gate_callee (f := 11) rfl ?_); refine goesL_ (some 52) rfl rfl Tryd.func11 (by kernel_rfl) rfl #[.slice Ao16 t233.length co16, .int .i64 1] rfl (zM) ?_; (with_reducible refine (laws_markShadeS.calls kj9 (fun k_ => some k_ = (.slice Ao16 t233.length co16 : Value).ownBlock) (.slice Ao16 t233.length co16) t233 1 t245 t246 w _ ?side1 ?side2 A28.out).mono ?_); (case side1 => repeat (first | (with_reducible first | exact HB.out | apply below_alloc | apply pw_below_drewN | apply below_drew1) | exact HB.out)); (case side2 => exact Kd.R_tight rfl HO_8.out); rintro e w33 ⟨rfl, hy0, hb, hkp⟩; refine ⟨_, rfl, ?_⟩; have n0_ := zA (Kd.S_mono (ok' := fun k_ => k_ < NN) (Kd.S_keptB ((Kd.S_apart' HO_6.out (Kd.R_typed HO_8.out) (by decide))) hkp (fun k_ hk_ hs_ => (hk_.2) hs_)) (fun k_ hk_ => hk_.1.1)); have n1_ := zA (Kd.R_reok rfl hy0 (fun k_ e_ => HO_8.out.1 k_ e_)); have n2_ := zA (Kd.S_mono (ok' := fun k_ => NN ≤ k_) (Kd.S_keptB ((Kd.S_apart' HO_9.out (Kd.R_typed HO_8.out) (by decide))) hkp (fun k_ hk_ hs_ => (hk_.2) hs_)) (fun k_ hk_ => hk_.1.1)); have n3_ := zA (Kd.R_mono (ok' := fun k_ => some k_ ≠ (.slice Ao16 t233.length co16 : Value).ownBlock) (Kd.R_keptB (HO243.out) hkp (fun k_ hk_ hs_ => (hk_.2) hs_)) (fun k_ hk_ => hk_.1.2)); have n4_ := zA (hb); clear HO_6; clear HO_8; clear HO_9; clear HO243; clear HB; have HO_6 := n0_; have HO_8 := n1_; have HO_9 := n2_; have HO243 := n3_; have HB := n4_; clear n0_ n1_ n2_ n3_ n4_; (try clear hb); (try clear hkp); (try clear hy0)))
      (try simp only [Act.put, List.setIfInBounds_toArray, List.set_cons_zero, List.set_cons_succ])
      go_cut [65] (fun v65 wc => ∃ (kq : Nat) (x65_28 : Bool), v65 = .bool x65_28 ∧ Aside0 (laws_FnExactTriadsOf.j1 kq l0 a1 t229 t230 t236 x65_28 = some r) ∧ Aside0 (kq ≤ kj9) ∧ Aside0 (Kd.S (Kd.slice 3 (Kd.int .i64)) 45 wc w.heap.size (fun k_ => k_ < NN) v231 t229) ∧ Aside0 (Kd.S (Kd.slice 3 (Kd.int .i64)) 45 wc w.heap.size (fun k_ => NN ≤ k_) v238 t236) ∧ Aside0 (Below w.heap.size w wc))
      case first =>
       have H := HC29.out; clear HC29
       by_cases c34 : t245 < 0
       ·rw [if_pos c34] at H
        have c34b0 : decide (t245 < 0) = true := decide_eq_true c34; clear c34
        (first | rw [c34b0] | (simp only [i64_w, i32_w]; rw [c34b0]) | skip)
        have H' := zA H; clear H
        go_wp2
        go_meet
        case rel => exact ⟨_, (true), (by first | rfl | (simp; done) | (simp [*]; done)), H', ⟨by have := HJ9.out; first | omega | exact Nat.le_refl _⟩, ⟨by (with_reducible repeat (first | apply Kd.S_alloc | apply Kd.S_drewN | apply Kd.S_drew)); exact HO_6.out⟩, ⟨by (with_reducible repeat (first | apply Kd.S_alloc | apply Kd.S_drewN | apply Kd.S_drew)); exact HO_9.out⟩, ⟨by repeat (first | (with_reducible first | exact HB.out | apply below_alloc | apply pw_below_drewN | apply below_drew1) | exact HB.out)⟩⟩
       ·rw [if_neg c34] at H
        have c34b0 : decide (t245 < 0) = false := decide_eq_false c34; clear c34
        (first | rw [c34b0] | (simp only [i64_w, i32_w]; rw [c34b0]) | skip)
        replace H := Option.bind_eq_some_iff.mp H
        obtain ⟨t247, A350, H⟩ := H
        replace H : (if t247 = true then (laws_FnExactTriadsOf.j1 kj9 l0 a1 t229 t230 t236 (t237 != t230)) else (laws_FnExactTriadsOf.j1 kj9 l0 a1 t229 t230 t236 true)) = some r := H
        have A35 := zA A350; clear A350
        by_cases c36 : t247 = true
        ·subst c36
         have H1 : (laws_FnExactTriadsOf.j1 kj9 l0 a1 t229 t230 t236 (t237 != t230)) = some r := by rw [if_pos rfl] at H; exact H
         clear H; have H := H1; clear H1; have H' := zA H; clear H
         obtain ⟨Ao37, co37, eo37⟩ := Kd.S_slice HO_9.out
         subst eo37
         obtain ⟨Ao38, co38, eo38⟩ := Kd.S_slice HO_6.out
         subst eo38
         go_wp2_with (first | (go_at_call 9; (with_reducible refine (laws_eqIntSS.calls kj9 _ _ t236 _ _ t229 true _ ?side1 ?side2 ?side3 ?side4 A35.out).mono ?_); (case side1 => repeat (first | exact (Kd.S_reads' HO_9.out).2.2 | (with_reducible refine Kd.C_alloc ?_ _) | (with_reducible refine Kd.C_drewN ?_ _) | (with_reducible refine Kd.C_drew ?_))); (case side2 => exact (Kd.S_reads' HO_9.out).2.1); (case side3 => repeat (first | exact (Kd.S_reads' HO_6.out).2.2 | (with_reducible refine Kd.C_alloc ?_ _) | (with_reducible refine Kd.C_drewN ?_ _) | (with_reducible refine Kd.C_drew ?_))); (case side4 => exact (Kd.S_reads' HO_6.out).2.1); rintro e w' ⟨rfl, ⟨nd, rfl⟩⟩))
         go_meet
         case rel => exact ⟨_, ((t237 != t230)), (by first | rfl | (simp; done) | (simp [*]; done)), H', ⟨by have := HJ9.out; first | omega | exact Nat.le_refl _⟩, ⟨by (with_reducible repeat (first | apply Kd.S_alloc | apply Kd.S_drewN | apply Kd.S_drew)); exact HO_6.out⟩, ⟨by (with_reducible repeat (first | apply Kd.S_alloc | apply Kd.S_drewN | apply Kd.S_drew)); exact HO_9.out⟩, ⟨by repeat (first | (with_reducible first | exact HB.out | apply below_alloc | apply pw_below_drewN | apply below_drew1) | exact HB.out)⟩⟩
        ·replace c36 := Bool.eq_false_iff.mpr c36
         subst c36
         have H1 : (laws_FnExactTriadsOf.j1 kj9 l0 a1 t229 t230 t236 true) = some r := by rw [if_neg (show ¬ (false = true) by decide)] at H; exact H
         clear H; have H := H1; clear H1; have H' := zA H; clear H
         obtain ⟨Ao39, co39, eo39⟩ := Kd.S_slice HO_9.out
         subst eo39
         obtain ⟨Ao40, co40, eo40⟩ := Kd.S_slice HO_6.out
         subst eo40
         go_wp2_with (first | (go_at_call 9; (with_reducible refine (laws_eqIntSS.calls kj9 _ _ t236 _ _ t229 false _ ?side1 ?side2 ?side3 ?side4 A35.out).mono ?_); (case side1 => repeat (first | exact (Kd.S_reads' HO_9.out).2.2 | (with_reducible refine Kd.C_alloc ?_ _) | (with_reducible refine Kd.C_drewN ?_ _) | (with_reducible refine Kd.C_drew ?_))); (case side2 => exact (Kd.S_reads' HO_9.out).2.1); (case side3 => repeat (first | exact (Kd.S_reads' HO_6.out).2.2 | (with_reducible refine Kd.C_alloc ?_ _) | (with_reducible refine Kd.C_drewN ?_ _) | (with_reducible refine Kd.C_drew ?_))); (case side4 => exact (Kd.S_reads' HO_6.out).2.1); rintro e w' ⟨rfl, ⟨nd, rfl⟩⟩))
         go_meet
         case rel => exact ⟨_, (true), (by first | rfl | (simp; done) | (simp [*]; done)), H', ⟨by have := HJ9.out; first | omega | exact Nat.le_refl _⟩, ⟨by (with_reducible repeat (first | apply Kd.S_alloc | apply Kd.S_drewN | apply Kd.S_drew)); exact HO_6.out⟩, ⟨by (with_reducible repeat (first | apply Kd.S_alloc | apply Kd.S_drewN | apply Kd.S_drew)); exact HO_9.out⟩, ⟨by repeat (first | (with_reducible first | exact HB.out | apply below_alloc | apply pw_below_drewN | apply below_drew1) | exact HB.out)⟩⟩
      case rest =>
       clear HC29
       try clear c1; try clear c2; try clear p2; try clear c3; try clear c4; try clear c4b0; try clear c5; try clear c7; try clear c9; try clear c10; try clear c11; try clear c14; try clear c15; try clear c19; try clear c24; try clear c27; try clear c34; try clear c34b0; try clear c36; try clear p2
       obtain ⟨kq, x65_28, rfl, HA, HJ28, HO_6, HO_9, HB⟩ := hcut
       cases kq with
       | zero => exact absurd HA.out (by simp [laws_FnExactTriadsOf.j1])
       | succ kj28 =>
        have H := HA.out; clear HA
        simp only [laws_FnExactTriadsOf.j1] at H
        by_cases c41 : x65_28 = true
        ·subst c41
         have H1 : (some false) = some r := by rw [if_pos rfl] at H; exact H
         clear H; have H := H1; clear H1
         obtain rfl := Option.some.inj H
         go_wp2
         go_ret
         exact ⟨by first | rfl | (simp [errW_none, errW_some] <;> rfl) | (simp [*, errW_none, errW_some] <;> rfl), by repeat (first | (with_reducible first | exact HB.out | apply below_alloc | apply pw_below_drewN | apply below_drew1) | exact HB.out)⟩
        ·replace c41 := Bool.eq_false_iff.mpr c41
         subst c41
         have H1 : ((laws_markIntSS.f t236 1).bind fun t248 => ((gosem_cut.f t236 1).bind fun t249 => ((laws_heldIntSS.f kj28 t249 1).bind fun t252 => (if t252 < 0 then (some false) else (if t252 = t248 then ((laws_toShadeS.f kj28 l0).bind fun t253 => ((impl_TriadsOf.f kj28 t253 a1).bind fun bt256 => ((laws_eqIntSS.f kj28 bt256.1 t229).bind fun t260 => (if t260 = true then (laws_FnExactTriadsOf.j2 kj28 t249 t248 (bt256.2 != t230)) else (laws_FnExactTriadsOf.j2 kj28 t249 t248 true))))) else (some false)))))) = some r := by rw [if_neg (show ¬ (false = true) by decide)] at H; exact H
         clear H; have H := H1; clear H1
         replace H := Option.bind_eq_some_iff.mp H
         obtain ⟨t248, A420, H⟩ := H
         replace H : ((gosem_cut.f t236 1).bind fun t249 => ((laws_heldIntSS.f kj28 t249 1).bind fun t252 => (if t252 < 0 then (some false) else (if t252 = t248 then ((laws_toShadeS.f kj28 l0).bind fun t253 => ((impl_TriadsOf.f kj28 t253 a1).bind fun bt256 => ((laws_eqIntSS.f kj28 bt256.1 t229).bind fun t260 => (if t260 = true then (laws_FnExactTriadsOf.j2 kj28 t249 t248 (bt256.2 != t230)) else (laws_FnExactTriadsOf.j2 kj28 t249 t248 true))))) else (some false))))) = some r := H
         have A42 := zA A420; clear A420
         replace H := Option.bind_eq_some_iff.mp H
         obtain ⟨t249, A430, H⟩ := H
         replace H : ((laws_heldIntSS.f kj28 t249 1).bind fun t252 => (if t252 < 0 then (some false) else (if t252 = t248 then ((laws_toShadeS.f kj28 l0).bind fun t253 => ((impl_TriadsOf.f kj28 t253 a1).bind fun bt256 => ((laws_eqIntSS.f kj28 bt256.1 t229).bind fun t260 => (if t260 = true then (laws_FnExactTriadsOf.j2 kj28 t249 t248 (bt256.2 != t230)) else (laws_FnExactTriadsOf.j2 kj28 t249 t248 true))))) else (some false)))) = some r := H
         have A43 := zA A430; clear A430
         replace H := Option.bind_eq_some_iff.mp H
         obtain ⟨t252, A440, H⟩ := H
         replace H : (if t252 < 0 then (some false) else (if t252 = t248 then ((laws_toShadeS.f kj28 l0).bind fun t253 => ((impl_TriadsOf.f kj28 t253 a1).bind fun bt256 => ((laws_eqIntSS.f kj28 bt256.1 t229).bind fun t260 => (if t260 = true then (laws_FnExactTriadsOf.j2 kj28 t249 t248 (bt256.2 != t230)) else (laws_FnExactTriadsOf.j2 kj28 t249 t248 true))))) else (some false))) = some r := H
         have A44 := zA A440; clear A440
         by_cases c45 : t252 < 0
         ·rw [if_pos c45] at H
          have c45b0 : decide (t252 < 0) = true := decide_eq_true c45; clear c45
          obtain rfl := Option.some.inj H
          obtain ⟨Ao46, co46, eo46⟩ := Kd.S_slice HO_9.out
          subst eo46
          go_wp2_with (first | ((with_reducible refine gate_callee (f := 12) rfl ?_); refine goesL_ (some 68) rfl rfl Tryd.func12 (by kernel_rfl) rfl #[.slice Ao46 t236.length co46, .int .i64 1] rfl (zM) ?_; (with_reducible refine (markSS_own (fun k_ => NN ≤ k_) (.slice Ao46 t236.length co46) t236 1 t248 t249 w _ ?side1 ?side2 A42.out A43.out).mono ?_); (case side1 => exact (zW HB)); (case side2 => exact (by (with_reducible repeat (first | apply Kd.S_alloc | apply Kd.S_drewN | apply Kd.S_drew)); exact HO_9.out)); rintro e w47 ⟨rfl, ho0, hb, hk0⟩; refine ⟨_, rfl, ?_⟩; have hl_ := cut_len A43.out; have n0_ := zA (Kd.S_kept (by (with_reducible repeat (first | apply Kd.S_alloc | apply Kd.S_drewN | apply Kd.S_drew)); exact HO_6.out) hk0 (fun k_ hk_ hs_ => absurd hs_ (Nat.not_le_of_lt hk_))); rw [← hl_] at ho0; rw [← hl_]; clear hl_; obtain ⟨Ao48, hA_⟩ : ∃ A_, A_ = Ao46 := ⟨_, rfl⟩; obtain ⟨co48, hc_⟩ : ∃ c_, c_ = co46 := ⟨_, rfl⟩; subst hA_; subst hc_; have n1_ := zA ho0; have n3_ := zA hb; clear HO_6; clear HO_9; clear HB; have HO_6 := n0_; have HO_9 := n1_; have HO251 := n1_; have HB := n3_; clear n0_ n1_ n3_; clear hb ho0 hk0) | ((with_reducible refine gate_callee (f := 13) rfl ?_); refine goesL_ (some 71) rfl rfl Tryd.func13 (by kernel_rfl) rfl #[.slice Ao48 t249.length co48, .int .i64 1] rfl (zM) ?_; (with_reducible refine (laws_heldIntSS.calls kj28 _ _ t249 1 t252 _ ?side1 ?side2 A44.out).mono ?_); (case side1 => repeat (first | exact (Kd.S_reads' HO251.out).2.2 | (with_reducible refine Kd.C_alloc ?_ _) | (with_reducible refine Kd.C_drewN ?_ _) | (with_reducible refine Kd.C_drew ?_))); (case side2 => exact (Kd.S_reads' HO251.out).2.1); rintro e w' ⟨rfl, ⟨nd, rfl⟩⟩; refine ⟨_, rfl, ?_⟩))
          go_ret
          exact ⟨by first | rfl | (simp [errW_none, errW_some] <;> rfl) | (simp [*, errW_none, errW_some] <;> rfl), by repeat (first | (with_reducible first | exact HB.out | apply below_alloc | apply pw_below_drewN | apply below_drew1) | exact HB.out)⟩
         ·rw [if_neg c45] at H
          have c45b0 : decide (t252 < 0) = false := decide_eq_false c45; clear c45
          by_cases c49 : t252 = t248
          ·rw [if_pos c49] at H
           have c49b0 : (t252 == t248) = true := beq_iff_eq.mpr c49; have c49b1 : (t252 != t248) = false := bne_eq_false_iff_eq.mpr c49; clear c49
           replace H := Option.bind_eq_some_iff.mp H
           obtain ⟨t253, A500, H⟩ := H
           replace H : ((impl_TriadsOf.f kj28 t253 a1).bind fun bt256 => ((laws_eqIntSS.f kj28 bt256.1 t229).bind fun t260 => (if t260 = true then (laws_FnExactTriadsOf.j2 kj28 t249 t248 (bt256.2 != t230)) else (laws_FnExactTriadsOf.j2 kj28 t249 t248 true)))) = some r := H
           have A50 := zA A500; clear A500
           replace H := Option.bind_eq_some_iff.mp H
           obtain ⟨⟨t256, t257⟩, A510, H⟩ := H
           replace H : ((laws_eqIntSS.f kj28 t256 t229).bind fun t260 => (if t260 = true then (laws_FnExactTriadsOf.j2 kj28 t249 t248 (t257 != t230)) else (laws_FnExactTriadsOf.j2 kj28 t249 t248 true))) = some r := H
           have A51 := zA A510; clear A510; have HC52 := zA H; clear H
           obtain ⟨Ao53, co53, eo53⟩ := Kd.S_slice HO_9.out
           subst eo53
           go_upto_region 25 with (first | ((with_reducible refine gate_callee (f := 12) rfl ?_); refine goesL_ (some 68) rfl rfl Tryd.func12 (by kernel_rfl) rfl #[.slice Ao53 t236.length co53, .int .i64 1] rfl (zM) ?_; (with_reducible refine (markSS_own (fun k_ => NN ≤ k_) (.slice Ao53 t236.length co53) t236 1 t248 t249 w _ ?side1 ?side2 A42.out A43.out).mono ?_); (case side1 => exact (zW HB)); (case side2 => exact (by (with_reducible repeat (first | apply Kd.S_alloc | apply Kd.S_drewN | apply Kd.S_drew)); exact HO_9.out)); rintro e w54 ⟨rfl, ho0, hb, hk0⟩; refine ⟨_, rfl, ?_⟩; have hl_ := cut_len A43.out; have n0_ := zA (Kd.S_kept (by (with_reducible repeat (first | apply Kd.S_alloc | apply Kd.S_drewN | apply Kd.S_drew)); exact HO_6.out) hk0 (fun k_ hk_ hs_ => absurd hs_ (Nat.not_le_of_lt hk_))); rw [← hl_] at ho0; rw [← hl_]; clear hl_; obtain ⟨Ao55, hA_⟩ : ∃ A_, A_ = Ao53 := ⟨_, rfl⟩; obtain ⟨co55, hc_⟩ : ∃ c_, c_ = co53 := ⟨_, rfl⟩; subst hA_; subst hc_; have n1_ := zA ho0; have n3_ := zA hb; clear HO_6; clear HO_9; clear HB; have HO_6 := n0_; have HO_9 := n1_; have HO251 := n1_; have HB := n3_; clear n0_ n1_ n3_; clear hb ho0 hk0) | ((with_reducible refine gate_callee (f := 13) rfl ?_); refine goesL_ (some 71) rfl rfl Tryd.func13 (by kernel_rfl) rfl #[.slice Ao55 t249.length co55, .int .i64 1] rfl (zM) ?_; (with_reducible refine (laws_heldIntSS.calls kj28 _ _ t249 1 t252 _ ?side1 ?side2 A44.out).mono ?_); (case side1 => repeat (first | exact (Kd.S_reads' HO251.out).2.2 | (with_reducible refine Kd.C_alloc ?_ _) | (with_reducible refine Kd.C_drewN ?_ _) | (with_reducible refine Kd.C_drew ?_))); (case side2 => exact (Kd.S_reads' HO251.out).2.1); rintro e w' ⟨rfl, ⟨nd, rfl⟩⟩; refine ⟨_, rfl, ?_⟩) | ((with_reducible refine gate_callee (f := 7) rfl ?_); refine goesL_ (some 79) rfl rfl Tryd.func7 (by kernel_rfl) rfl #[.slice A0 l0.length c0] rfl (zM) ?_; (with_reducible refine (laws_toShadeS.calls kj28 _ _ l0 t253 _ ?side1 ?side2 A50.out).mono ?_); (case side1 => repeat (first | exact (Kd.C_below HR0.out (zW HB)) | (with_reducible refine Kd.C_alloc ?_ _) | (with_reducible refine Kd.C_drewN ?_ _) | (with_reducible refine Kd.C_drew ?_))); (case side2 => exact HC0.out); rintro e w56 ⟨v254, rfl, ho0, hb⟩; refine ⟨_, rfl, ?_⟩; have n0_ := zA (Kd.S_below (by (with_reducible repeat (first | apply Kd.S_alloc | apply Kd.S_drewN | apply Kd.S_drew)); exact HO_6.out) hb); have n1_ := zA (Kd.S_below (by (with_reducible repeat (first | apply Kd.S_alloc | apply Kd.S_drewN | apply Kd.S_drew)); exact HO_9.out) hb); have n2_ := zA (Kd.S_below (by (with_reducible repeat (first | apply Kd.S_alloc | apply Kd.S_drewN | apply Kd.S_drew)); exact HO251.out) hb); have n3_ := zA (Kd.R_lower ho0 (below_size (zW HB))); have n4_ := zA (below_step (zW HB) hb); clear HO_6; clear HO_9; clear HO251; clear HB; have HO_6 := n0_; have HO_9 := n1_; have HO251 := n2_; have HO255 := n3_; have HB := n4_; clear n0_ n1_ n2_ n3_ n4_; (try clear hb); (try clear hb2); (try clear hk); (try clear hi); (try clear ho0); obtain ⟨Ao57, co57, eo57⟩ := Kd.R_slice HO255.out; subst eo57) | ((with_reducible refine gate_callee (f := 15) rfl ?_); refine goesL_ (some 81) rfl rfl Tryd.func15 (by kernel_rfl) rfl #[.slice Ao57 t253.length co57, .int .i64 a1] rfl (zM) ?_; (with_reducible refine (impl_TriadsOf.calls kj28 _ _ t253 a1 t256 t257 _ ?side1 ?side2 A51.out).mono ?_); (case side1 => repeat (first | exact (Kd.R_reads' HO255.out).2.2 | (with_reducible refine Kd.C_alloc ?_ _) | (with_reducible refine Kd.C_drewN ?_ _) | (with_reducible refine Kd.C_drew ?_))); (case side2 => exact (Kd.R_reads' HO255.out).2.1); rintro e w58 ⟨v258, rfl, ho0, hb⟩; refine ⟨_, rfl, ?_⟩; have n0_ := zA (Kd.S_elder' (by (with_reducible repeat (first | apply Kd.S_alloc | apply Kd.S_drewN | apply Kd.S_drew)); exact HO_6.out) (Kd.S_base ho0) hb); have n1_ := zA (Kd.S_elder' (by (with_reducible repeat (first | apply Kd.S_alloc | apply Kd.S_drewN | apply Kd.S_drew)); exact HO_9.out) (Kd.S_base ho0) hb); have n2_ := zA (Kd.S_elder' (by (with_reducible repeat (first | apply Kd.S_alloc | apply Kd.S_drewN | apply Kd.S_drew)); exact HO251.out) (Kd.S_base ho0) hb); have n3_ := zA (Kd.R_below (zR HO255) hb); have n4_ := zA (Kd.S_lower (Kd.S_new' (Kd.S_new' (Kd.S_new' ho0 (Kd.S_lt (by (with_reducible repeat (first | apply Kd.S_alloc | apply Kd.S_drewN | apply Kd.S_drew)); exact HO_6.out))) (Kd.S_lt (by (with_reducible repeat (first | apply Kd.S_alloc | apply Kd.S_drewN | apply Kd.S_drew)); exact HO_9.out))) (Kd.S_lt (by (with_reducible repeat (first | apply Kd.S_alloc | apply Kd.S_drewN | apply Kd.S_drew)); exact HO251.out))) (below_size (zW HB))); have n5_ := zA (below_step (zW HB) hb); clear HO_6; clear HO_9; clear HO251; clear HO255; clear HB; have HO_6 := n0_; have HO_9 := n1_; have HO251 := n2_; have HO255 := n3_; have HO259 := n4_; have HB := n5_; clear n0_ n1_ n2_ n3_ n4_ n5_; (try clear hb); (try clear hb2); (try clear hk); (try clear hi); (try clear ho0)))
           (try simp only [Act.put, List.setIfInBounds_toArray, List.set_cons_zero, List.set_cons_succ])
           go_cut [92] (fun v92 wc => ∃ (kq : Nat) (x92_51 : Bool), v92 = .bool x92_51 ∧ Aside0 (laws_FnExactTriadsOf.j2 kq t249 t248 x92_51 = some r) ∧ Aside0 (kq ≤ kj28) ∧ Aside0 (Kd.S (Kd.slice 3 (Kd.int .i64)) 45 wc w.heap.size (fun _ => True) (.slice Ao55 t249.length co55) t249) ∧ Aside0 (Below w.heap.size w wc))
           case first =>
            have H := HC52.out; clear HC52
            replace H := Option.bind_eq_some_iff.mp H
            obtain ⟨t260, A590, H⟩ := H
            replace H : (if t260 = true then (laws_FnExactTriadsOf.j2 kj28 t249 t248 (t257 != t230)) else (laws_FnExactTriadsOf.j2 kj28 t249 t248 true)) = some r := H
            have A59 := zA A590; clear A590
            by_cases c60 : t260 = true
            ·subst c60
             have H1 : (laws_FnExactTriadsOf.j2 kj28 t249 t248 (t257 != t230)) = some r := by rw [if_pos rfl] at H; exact H
             clear H; have H := H1; clear H1; have H' := zA H; clear H
             obtain ⟨Ao61, co61, eo61⟩ := Kd.S_slice HO259.out
             subst eo61
             obtain ⟨Ao62, co62, eo62⟩ := Kd.S_slice HO_6.out
             subst eo62
             go_wp2_with (first | ((with_reducible refine gate_callee (f := 9) rfl ?_); refine goesL_ (some 86) rfl rfl Tryd.func9 (by kernel_rfl) rfl #[.slice Ao61 t256.length co61, .slice Ao62 t229.length co62] rfl (zM) ?_; (with_reducible refine (laws_eqIntSS.calls kj28 _ _ t256 _ _ t229 true _ ?side1 ?side2 ?side3 ?side4 A59.out).mono ?_); (case side1 => repeat (first | exact (Kd.S_reads' HO259.out).2.2 | (with_reducible refine Kd.C_alloc ?_ _) | (with_reducible refine Kd.C_drewN ?_ _) | (with_reducible refine Kd.C_drew ?_))); (case side2 => exact (Kd.S_reads' HO259.out).2.1); (case side3 => repeat (first | exact (Kd.S_reads' HO_6.out).2.2 | (with_reducible refine Kd.C_alloc ?_ _) | (with_reducible refine Kd.C_drewN ?_ _) | (with_reducible refine Kd.C_drew ?_))); (case side4 => exact (Kd.S_reads' HO_6.out).2.1); rintro e w' ⟨rfl, ⟨nd, rfl⟩⟩; refine ⟨_, rfl, ?_⟩))
             go_meet
             case rel => exact ⟨_, ((t257 != t230)), (by first | rfl | (simp; done) | (simp [*]; done)), H', ⟨by have := HJ9.out; have := HJ28.out; first | omega | exact Nat.le_refl _⟩, ⟨by (with_reducible repeat (first | apply Kd.S_alloc | apply Kd.S_drewN | apply Kd.S_drew)); exact Kd.S_mono HO251.out (fun _ hk => trivial)⟩, ⟨by repeat (first | (with_reducible first | exact HB.out | apply below_alloc | apply pw_below_drewN | apply below_drew1) | exact HB.out)⟩⟩
            ·replace c60 := Bool.eq_false_iff.mpr c60
             subst c60
             have H1 : (laws_FnExactTriadsOf.j2 kj28 t249 t248 true) = some r := by rw [if_neg (show ¬ (false = true) by decide)] at H; exact H
             clear H; have H := H1; clear H1; have H' := zA H; clear H
             obtain ⟨Ao63, co63, eo63⟩ := Kd.S_slice HO259.out
             subst eo63
             obtain ⟨Ao64, co64, eo64⟩ := Kd.S_slice HO_6.out
             subst eo64
             go_wp2_with (first | ((with_reducible refine gate_callee (f := 9) rfl ?_); refine goesL_ (some 86) rfl rfl Tryd.func9 (by kernel_rfl) rfl #[.slice Ao63 t256.length co63, .slice Ao64 t229.length co64] rfl (zM) ?_; (with_reducible refine (laws_eqIntSS.calls kj28 _ _ t256 _ _ t229 false _ ?side1 ?side2 ?side3 ?side4 A59.out).mono ?_); (case side1 => repeat (first | exact (Kd.S_reads' HO259.out).2.2 | (with_reducible refine Kd.C_alloc ?_ _) | (with_reducible refine Kd.C_drewN ?_ _) | (with_reducible refine Kd.C_drew ?_))); (case side2 => exact (Kd.S_reads' HO259.out).2.1); (case side3 => repeat (first | exact (Kd.S_reads' HO_6.out).2.2 | (with_reducible refine Kd.C_alloc ?_ _) | (with_reducible refine Kd.C_drewN ?_ _) | (with_reducible refine Kd.C_drew ?_))); (case side4 => exact (Kd.S_reads' HO_6.out).2.1); rintro e w' ⟨rfl, ⟨nd, rfl⟩⟩; refine ⟨_, rfl, ?_⟩))
             go_meet
             case rel => exact ⟨_, (true), (by first | rfl | (simp; done) | (simp [*]; done)), H', ⟨by have := HJ9.out; have := HJ28.out; first | omega | exact Nat.le_refl _⟩, ⟨by (with_reducible repeat (first | apply Kd.S_alloc | apply Kd.S_drewN | apply Kd.S_drew)); exact Kd.S_mono HO251.out (fun _ hk => trivial)⟩, ⟨by repeat (first | (with_reducible first | exact HB.out | apply below_alloc | apply pw_below_drewN | apply below_drew1) | exact HB.out)⟩⟩
           case rest =>
            clear HC52
            try clear c1; try clear c2; try clear p2; try clear c3; try clear c4; try clear c4b0; try clear c5; try clear c6; try clear c7; try clear c9; try clear c10; try clear c11; try clear c12; try clear c13; try clear c14; try clear c15; try clear c19; try clear c24; try clear c27; try clear c34; try clear c34b0; try clear c36; try clear c41; try clear c45; try clear c45b0; try clear c49; try clear c49b0; try clear c49b1; try clear c60; try clear p2
            obtain ⟨kq, x92_51, rfl, HA, HJ51, HO_9, HB⟩ := hcut
            cases kq with
            | zero => exact absurd HA.out (by simp [laws_FnExactTriadsOf.j2])
            | succ kj51 =>
             have H := HA.out; clear HA
             simp only [laws_FnExactTriadsOf.j2] at H
             by_cases c65 : x92_51 = true
             ·subst c65
              have H1 : (some false) = some r := by rw [if_pos rfl] at H; exact H
              clear H; have H := H1; clear H1
              obtain rfl := Option.some.inj H
              go_wp2
              go_ret
              exact ⟨by first | rfl | (simp [errW_none, errW_some] <;> rfl) | (simp [*, errW_none, errW_some] <;> rfl), by repeat (first | (with_reducible first | exact HB.out | apply below_alloc | apply pw_below_drewN | apply below_drew1) | exact HB.out)⟩
             ·replace c65 := Bool.eq_false_iff.mpr c65
              subst c65
              have H1 : ((laws_heldIntSS.f kj51 t249 1).bind fun t261 => (if t261 < 0 then (some false) else (if t261 = t248 then (some true) else (some false)))) = some r := by rw [if_neg (show ¬ (false = true) by decide)] at H; exact H
              clear H; have H := H1; clear H1
              replace H := Option.bind_eq_some_iff.mp H
              obtain ⟨t261, A660, H⟩ := H
              replace H : (if t261 < 0 then (some false) else (if t261 = t248 then (some true) else (some false))) = some r := H
              have A66 := zA A660; clear A660
              by_cases c67 : t261 < 0
              ·rw [if_pos c67] at H
               have c67b0 : decide (t261 < 0) = true := decide_eq_true c67; clear c67
               obtain rfl := Option.some.inj H
               go_wp2_with (first | ((with_reducible refine gate_callee (f := 13) rfl ?_); refine goesL_ (some 95) rfl rfl Tryd.func13 (by kernel_rfl) rfl #[.slice Ao55 t249.length co55, .int .i64 1] rfl (zM) ?_; (with_reducible refine (laws_heldIntSS.calls kj51 _ _ t249 1 t261 _ ?side1 ?side2 A66.out).mono ?_); (case side1 => repeat (first | exact (Kd.S_reads' HO_9.out).2.2 | (with_reducible refine Kd.C_alloc ?_ _) | (with_reducible refine Kd.C_drewN ?_ _) | (with_reducible refine Kd.C_drew ?_))); (case side2 => exact (Kd.S_reads' HO_9.out).2.1); rintro e w' ⟨rfl, ⟨nd, rfl⟩⟩; refine ⟨_, rfl, ?_⟩))
               go_ret
               exact ⟨by first | rfl | (simp [errW_none, errW_some] <;> rfl) | (simp [*, errW_none, errW_some] <;> rfl), by repeat (first | (with_reducible first | exact HB.out | apply below_alloc | apply pw_below_drewN | apply below_drew1) | exact HB.out)⟩
              ·rw [if_neg c67] at H
               have c67b0 : decide (t261 < 0) = false := decide_eq_false c67; clear c67
               by_cases c68 : t261 = t248
               ·rw [if_pos c68] at H
                have c68b0 : (t261 == t248) = true := beq_iff_eq.mpr c68; have c68b1 : (t261 != t248) = false := bne_eq_false_iff_eq.mpr c68; clear c68
                obtain rfl := Option.some.inj H
                go_wp2_with (first | ((with_reducible refine gate_callee (f := 13) rfl ?_); refine goesL_ (some 95) rfl rfl Tryd.func13 (by kernel_rfl) rfl #[.slice Ao55 t249.length co55, .int .i64 1] rfl (zM) ?_; (with_reducible refine (laws_heldIntSS.calls kj51 _ _ t249 1 t261 _ ?side1 ?side2 A66.out).mono ?_); (case side1 => repeat (first | exact (Kd.S_reads' HO_9.out).2.2 | (with_reducible refine Kd.C_alloc ?_ _) | (with_reducible refine Kd.C_drewN ?_ _) | (with_reducible refine Kd.C_drew ?_))); (case side2 => exact (Kd.S_reads' HO_9.out).2.1); rintro e w' ⟨rfl, ⟨nd, rfl⟩⟩; refine ⟨_, rfl, ?_⟩))
                go_ret
                exact ⟨by first | rfl | (simp [errW_none, errW_some] <;> rfl) | (simp [*, errW_none, errW_some] <;> rfl), by repeat (first | (with_reducible first | exact HB.out | apply below_alloc | apply pw_below_drewN | apply below_drew1) | exact HB.out)⟩
               ·rw [if_neg c68] at H
                have c68b0 : (t261 == t248) = false := beq_eq_false_iff_ne.mpr c68; have c68b1 : (t261 != t248) = true := bne_iff_ne.mpr c68
                obtain rfl := Option.some.inj H
                go_wp2_with (first | ((with_reducible refine gate_callee (f := 13) rfl ?_); refine goesL_ (some 95) rfl rfl Tryd.func13 (by kernel_rfl) rfl #[.slice Ao55 t249.length co55, .int .i64 1] rfl (zM) ?_; (with_reducible refine (laws_heldIntSS.calls kj51 _ _ t249 1 t261 _ ?side1 ?side2 A66.out).mono ?_); (case side1 => repeat (first | exact (Kd.S_reads' HO_9.out).2.2 | (with_reducible refine Kd.C_alloc ?_ _) | (with_reducible refine Kd.C_drewN ?_ _) | (with_reducible refine Kd.C_drew ?_))); (case side2 => exact (Kd.S_reads' HO_9.out).2.1); rintro e w' ⟨rfl, ⟨nd, rfl⟩⟩; refine ⟨_, rfl, ?_⟩))
                go_ret
                exact ⟨by first | rfl | (simp [errW_none, errW_some] <;> rfl) | (simp [*, errW_none, errW_some] <;> rfl), by repeat (first | (with_reducible first | exact HB.out | apply below_alloc | apply pw_below_drewN | apply below_drew1) | exact HB.out)⟩
          ·rw [if_neg c49] at H
           have c49b0 : (t252 == t248) = false := beq_eq_false_iff_ne.mpr c49; have c49b1 : (t252 != t248) = true := bne_iff_ne.mpr c49
           obtain rfl := Option.some.inj H
           obtain ⟨Ao69, co69, eo69⟩ := Kd.S_slice HO_9.out
           subst eo69
           go_wp2_with (first | ((with_reducible refine gate_callee (f := 12) rfl ?_); refine goesL_ (some 68) rfl rfl Tryd.func12 (by kernel_rfl) rfl #[.slice Ao69 t236.length co69, .int .i64 1] rfl (zM) ?_; (with_reducible refine (markSS_own (fun k_ => NN ≤ k_) (.slice Ao69 t236.length co69) t236 1 t248 t249 w _ ?side1 ?side2 A42.out A43.out).mono ?_); (case side1 => exact (zW HB)); (case side2 => exact (by (with_reducible repeat (first | apply Kd.S_alloc | apply Kd.S_drewN | apply Kd.S_drew)); exact HO_9.out)); rintro e w70 ⟨rfl, ho0, hb, hk0⟩; refine ⟨_, rfl, ?_⟩; have hl_ := cut_len A43.out; have n0_ := zA (Kd.S_kept (by (with_reducible repeat (first | apply Kd.S_alloc | apply Kd.S_drewN | apply Kd.S_drew)); exact HO_6.out) hk0 (fun k_ hk_ hs_ => absurd hs_ (Nat.not_le_of_lt hk_))); rw [← hl_] at ho0; rw [← hl_]; clear hl_; obtain ⟨Ao71, hA_⟩ : ∃ A_, A_ = Ao69 := ⟨_, rfl⟩; obtain ⟨co71, hc_⟩ : ∃ c_, c_ = co69 := ⟨_, rfl⟩; subst hA_; subst hc_; have n1_ := zA ho0; have n3_ := zA hb; clear HO_6; clear HO_9; clear HB; have HO_6 := n0_; have HO_9 := n1_; have HO251 := n1_; have HB := n3_; clear n0_ n1_ n3_; clear hb ho0 hk0) | ((with_reducible refine gate_callee (f := 13) rfl ?_); refine goesL_ (some 71) rfl rfl Tryd.func13 (by kernel_rfl) rfl #[.slice Ao71 t249.length co71, .int .i64 1] rfl (zM) ?_; (with_reducible refine (laws_heldIntSS.calls kj28 _ _ t249 1 t252 _ ?side1 ?side2 A44.out).mono ?_); (case side1 => repeat (first | exact (Kd.S_reads' HO251.out).2.2 | (with_reducible refine Kd.C_alloc ?_ _) | (with_reducible refine Kd.C_drewN ?_ _) | (with_reducible refine Kd.C_drew ?_))); (case side2 => exact (Kd.S_reads' HO251.out).2.1); rintro e w' ⟨rfl, ⟨nd, rfl⟩⟩; refine ⟨_, rfl, ?_⟩))
           go_ret
           exact ⟨by first | rfl | (simp [errW_none, errW_some] <;> rfl) | (simp [*, errW_none, errW_some] <;> rfl), by repeat (first | (with_reducible first | exact HB.out | apply below_alloc | apply pw_below_drewN | apply below_drew1) | exact HB.out)⟩
     ·replace c27 := Bool.eq_false_iff.mpr c27
      subst c27
      have H1 : (some false) = some r := by rw [if_neg (show ¬ (false = true) by decide)] at H; exact H
      clear H; have H := H1; clear H1
      obtain rfl := Option.some.inj H
      go_wp2_with (first | ((with_reducible refine gate_callee (f := 7) rfl ?_); refine goesL_ (some 47) rfl rfl Tryd.func7 (by kernel_rfl) rfl #[.slice A0 l0.length c0] rfl (zM) ?_; (with_reducible refine (laws_toShadeS.calls kj9 _ _ l0 t241 _ ?side1 ?side2 A25.out).mono ?_); (case side1 => repeat (first | exact (Kd.C_below HR0.out HB.out) | (with_reducible refine Kd.C_alloc ?_ _) | (with_reducible refine Kd.C_drewN ?_ _) | (with_reducible refine Kd.C_drew ?_))); (case side2 => exact HC0.out); rintro e w72 ⟨v242, rfl, ho0, hb⟩; refine ⟨_, rfl, ?_⟩; have n0_ := zA (Kd.S_below (by (with_reducible repeat (first | apply Kd.S_alloc | apply Kd.S_drewN | apply Kd.S_drew)); exact HO_6.out) hb); have n1_ := zA (Kd.R_elder' (zR HO_8) (Kd.R_base ho0) hb); have n2_ := zA (Kd.S_below (by (with_reducible repeat (first | apply Kd.S_alloc | apply Kd.S_drewN | apply Kd.S_drew)); exact HO_9.out) hb); have n3_ := zA (Kd.R_lower (Kd.R_new' ho0 (Kd.R_lt (zR HO_8))) (below_size (zW HB))); have n4_ := zA (below_step (zW HB) hb); clear HO_6; clear HO_8; clear HO_9; clear HB; have HO_6 := n0_; have HO_8 := n1_; have HO_9 := n2_; have HO243 := n3_; have HB := n4_; clear n0_ n1_ n2_ n3_ n4_; (try clear hb); (try clear hb2); (try clear hk); (try clear hi); (try clear ho0); obtain ⟨Ao73, co73, eo73⟩ := Kd.R_slice HO243.out; subst eo73) | ((with_reducible refine gate_callee (f := 10) rfl ?_); refine goesL_ (some 48) rfl rfl Tryd.func10 (by kernel_rfl) rfl #[.slice Ao16 t233.length co16, .slice Ao73 t241.length co73] rfl (zM) ?_; (with_reducible refine (laws_eqShadeS.calls kj9 _ _ t233 _ _ t241 false _ ?side1 ?side2 ?side3 ?side4 A26.out).mono ?_); (case side1 => repeat (first | exact (Kd.R_reads' HO_8.out).2.2 | (with_reducible refine Kd.C_alloc ?_ _) | (with_reducible refine Kd.C_drewN ?_ _) | (with_reducible refine Kd.C_drew ?_))); (case side2 => exact (Kd.R_reads' HO_8.out).2.1); (case side3 => repeat (first | exact (Kd.R_reads' HO243.out).2.2 | (with_reducible refine Kd.C_alloc ?_ _) | (with_reducible refine Kd.C_drewN ?_ _) | (with_reducible refine Kd.C_drew ?_))); (case side4 => exact (Kd.R_reads' HO243.out).2.1); rintro e w74 ⟨rfl, hb⟩; refine ⟨_, rfl, ?_⟩; have n0_ := zA (Kd.S_below (by (with_reducible repeat (first | apply Kd.S_alloc | apply Kd.S_drewN | apply Kd.S_drew)); exact HO_6.out) hb); have n1_ := zA (Kd.R_below (zR HO_8) hb); have n2_ := zA (Kd.S_below (by (with_reducible repeat (first | apply Kd.S_alloc | apply Kd.S_drewN | apply Kd.S_drew)); exact HO_9.out) hb); have n3_ := zA (Kd.R_below (zR HO243) hb); have n4_ := zA (below_step (zW HB) hb); clear HO_6; clear HO_8; clear HO_9; clear HO243; clear HB; have HO_6 := n0_; have HO_8 := n1_; have HO_9 := n2_; have HO243 := n3_; have HB := n4_; clear n0_ n1_ n2_ n3_ n4_; (try clear hb); (try clear hb2); (try clear hk); (try clear hi)))
      go_ret
      exact ⟨by first | rfl | (simp [errW_none, errW_some] <;> rfl) | (simp [*, errW_none, errW_some] <;> rfl), by repeat (first | (with_reducible first | exact HB.out | apply below_alloc | apply pw_below_drewN | apply below_drew1) | exact HB.out)⟩
end Go.Proofs.YtggikmajopmchaaDoor.G
