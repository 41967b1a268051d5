-- Printed by a program of this session (wip/tools/gp.sh); Lean checks it.
import Derived.Test.YtafokpklcmegaaaDoorGx0
import Derived.Test.YtafokpklcmegaaaDoorGx1
import Derived.Test.YtafokpklcmegaaaDoorGx2
import Derived.Test.YtafokpklcmegaaaDoorGx5
import Derived.Test.YtafokpklcmegaaaDoorGx7
import Derived.Test.YtafokpklcmegaaaDoorGx8
import Derived.Test.YtafokpklcmegaaaDoorGx9
import Derived.Test.YtafokpklcmegaaaDoorGx10
import Derived.Test.YtafokpklcmegaaaDoorGx11
import Derived.Test.YtafokpklcmegaaaDoorGx13
namespace Go.Proofs.YtafokpklcmegaaaDoor.G
open Go.RowKit Go.Proofs.YtafokpklcmegaaaDoorW.PrintWords Go.Proofs.YtafokpklcmegaaaDoorW.PrintLast Go.Proofs.YtafokpklcmegaaaDoorW.PrintMore
attribute [local go_sem] isSome_setCell_ max2_int min2_int max_two min_two max_three min_three max_four min_four   -- for this text's walks alone
set_option linter.unusedVariables false
set_option linter.unusedSimpArgs false

/-! ### impl_NearestShade: function 20 -/
/-- How two shades compare by their distance from the one that is asked for. -/
def nearOF (s0 : ByteArray) (a b : Int) (x0 : Int) (x1 : ByteArray) (x2 x3 x4 : Int) (y0 : Int) (y1 : ByteArray) (y2 y3 y4 : Int) : Option Int :=
  (impl_Shade_distance.f x0 x1 x2 x3 x4 0 s0 a b 0).bind fun d1 => (impl_Shade_distance.f y0 y1 y2 y3 y4 0 s0 a b 0).bind fun d2 => cmp_Compare_int.f d1 d2
theorem bcell_ {W w1 : World} (hb : Below W.heap.size W w1) : (∀ b o, b < W.heap.size → w1.cell? ⟨b, o, none⟩ = W.cell? ⟨b, o, none⟩) ∧ (∀ b o, b < W.heap.size → w1.frozen? ⟨b, o, none⟩ = W.frozen? ⟨b, o, none⟩) :=
  ⟨fun b o h => hb.cell (p := ⟨b, o, none⟩) h, fun b o h => hb.frozen (p := ⟨b, o, none⟩) h⟩
def farD (s0 : ByteArray) (a b z0 : Int) (z1 : ByteArray) (z2 z3 z4 : Int) : Int := (impl_Shade_distance.f z0 z1 z2 z3 z4 0 s0 a b 0).getD 0
set_option maxHeartbeats 4000000 in
set_option maxRecDepth 100000 in
theorem nearLit (s0 : ByteArray) (a b : Int) (B : Nat) (W : World) (k0 : W.cell? ⟨B, 0, none⟩ = some (.int .i64 0)) (k1 : W.cell? ⟨B, 1, none⟩ = some (.string s0)) (k2 : W.cell? ⟨B, 2, none⟩ = some (.int .i64 a)) (k3 : W.cell? ⟨B, 3, none⟩ = some (.int .i64 b)) (k4 : W.cell? ⟨B, 4, none⟩ = some (.int .i64 0))
    (x0 : Int) (x1 : ByteArray) (x2 x3 x4 : Int) (y0 : Int) (y1 : ByteArray) (y2 y3 y4 t : Int) (h : nearOF s0 a b x0 x1 x2 x3 x4 y0 y1 y2 y3 y4 = some t) :
    Calls Tryd.prog 51 #[.agg #[.int .i64 x0, .string x1, .int .i64 x2, .int .i64 x3, .int .i64 x4], .agg #[.int .i64 y0, .string y1, .int .i64 y2, .int .i64 y3, .int .i64 y4], .pointer (some ⟨B, 0, none⟩)] W fun e w' => e = .returned (.int .i64 t) ∧ Below W.heap.size W w' := by
  have hu_ := Tryd.underlying48
  have hlt := World.block_lt_of_cell? W _ k0
  unfold nearOF at h
  replace h := Option.bind_eq_some_iff.mp h
  obtain ⟨d1, h1, h⟩ := h
  replace h := Option.bind_eq_some_iff.mp h
  obtain ⟨d2, h2, h3⟩ := h
  have HD1 := Aside0.mk h1
  have HD2 := Aside0.mk h2
  have e1 : farD s0 a b x0 x1 x2 x3 x4 = d1 := by unfold farD; rw [h1]; rfl
  have e2 : farD s0 a b y0 y1 y2 y3 y4 = d2 := by unfold farD; rw [h2]; rfl
  have HC : Aside0 (∀ V : World, Calls Tryd.prog 52 #[.int .i64 (farD s0 a b x0 x1 x2 x3 x4), .int .i64 (farD s0 a b y0 y1 y2 y3 y4)] V fun e w' => e = .returned (.int .i64 t) ∧ Drawn0 V w') := ⟨fun V => by rw [e1, e2]; exact cmp_Compare_int.calls d1 d2 t V h3⟩
  clear h1 h2 h3 e1 e2
  have HGG := Aside0.mk (fun (z0 : Int) (z1 : ByteArray) (z2 z3 z4 : Int) (V : World) (hd : ∃ d, impl_Shade_distance.f z0 z1 z2 z3 z4 0 s0 a b 0 = some d) => (show Calls Tryd.prog 44 #[.agg #[.int .i64 z0, .string z1, .int .i64 z2, .int .i64 z3, .int .i64 z4], .agg #[.int .i64 0, .string s0, .int .i64 a, .int .i64 b, .int .i64 0]] V fun e w' => e = .returned (.int .i64 (farD s0 a b z0 z1 z2 z3 z4)) ∧ Below V.heap.size V w' by
    obtain ⟨d, hd⟩ := hd
    have e : farD s0 a b z0 z1 z2 z3 z4 = d := by unfold farD; rw [hd]; rfl
    rw [e]
    exact impl_Shade_distance.calls z0 z1 z2 z3 z4 0 s0 a b 0 d V hd))
  go_enter Tryd.func51, Tryd.ntmps51
  go_wp2
  go_region_held3 (fun w' => Below W.heap.size W w' ∧ W.heap.size + 2 ≤ w'.heap.size ∧ w'.cell? ⟨W.heap.size, 0, none⟩ = some (.int .i64 x0) ∧ w'.cell? ⟨W.heap.size, 1, none⟩ = some (.string x1) ∧ w'.cell? ⟨W.heap.size, 2, none⟩ = some (.int .i64 x2) ∧ w'.cell? ⟨W.heap.size, 3, none⟩ = some (.int .i64 x3) ∧ w'.cell? ⟨W.heap.size, 4, none⟩ = some (.int .i64 x4)
      ∧ w'.cell? ⟨W.heap.size + 1, 0, none⟩ = some (.int .i64 y0) ∧ w'.cell? ⟨W.heap.size + 1, 1, none⟩ = some (.string y1) ∧ w'.cell? ⟨W.heap.size + 1, 2, none⟩ = some (.int .i64 y2) ∧ w'.cell? ⟨W.heap.size + 1, 3, none⟩ = some (.int .i64 y3) ∧ w'.cell? ⟨W.heap.size + 1, 4, none⟩ = some (.int .i64 y4)
      ∧ w'.cell? ⟨B, 0, none⟩ = some (.int .i64 0) ∧ w'.cell? ⟨B, 1, none⟩ = some (.string s0) ∧ w'.cell? ⟨B, 2, none⟩ = some (.int .i64 a) ∧ w'.cell? ⟨B, 3, none⟩ = some (.int .i64 b) ∧ w'.cell? ⟨B, 4, none⟩ = some (.int .i64 0))
    ((refine ⟨by first | assumption | (repeat (first | assumption | exact Below.refl _ _ | apply below_alloc | apply pw_below_drewN | apply below_drew1)), by first | assumption | (simp; done) | (simp; omega) | omega, ?_⟩; first | go_keep | (exact ⟨by assumption, by assumption, by assumption, by assumption, by assumption, by assumption, by assumption, by assumption, by assumption, by assumption, by assumption, by assumption, by assumption, by assumption, by assumption⟩)))
    (first
    | (go_at_call 44; refine (HGG.out _ _ _ _ _ _ (by first | exact ⟨_, HD1.out⟩ | exact ⟨_, HD2.out⟩)).mono ?_; rintro e w1 ⟨rfl, hb1⟩; obtain ⟨hc1, hf1⟩ := bcell_ hb1; have hz1 := hb1.size; (try simp at hz1); have hz2 : W.heap.size + 2 ≤ w1.heap.size := (by omega); have HW1 : Below W.heap.size W w1 := below_step (by repeat (first | assumption | exact Below.refl _ _ | apply below_alloc | apply pw_below_drewN | apply below_drew1)) hb1; have qB0 := (HW1.cell (p := ⟨B, 0, none⟩) hlt).trans k0; have qB1 := (HW1.cell (p := ⟨B, 1, none⟩) hlt).trans k1; have qB2 := (HW1.cell (p := ⟨B, 2, none⟩) hlt).trans k2; have qB3 := (HW1.cell (p := ⟨B, 3, none⟩) hlt).trans k3; have qB4 := (HW1.cell (p := ⟨B, 4, none⟩) hlt).trans k4; (try have qY0 : w1.cell? ⟨W.heap.size + 1, 0, none⟩ = some (.int .i64 y0) := (hc1 _ _ (by first | omega | (simp; done) | (simp; omega))).trans (by first | assumption | (simp [*]; done))); (try have qY1 : w1.cell? ⟨W.heap.size + 1, 1, none⟩ = some (.string y1) := (hc1 _ _ (by first | omega | (simp; done) | (simp; omega))).trans (by first | assumption | (simp [*]; done))); (try have qY2 : w1.cell? ⟨W.heap.size + 1, 2, none⟩ = some (.int .i64 y2) := (hc1 _ _ (by first | omega | (simp; done) | (simp; omega))).trans (by first | assumption | (simp [*]; done))); (try have qY3 : w1.cell? ⟨W.heap.size + 1, 3, none⟩ = some (.int .i64 y3) := (hc1 _ _ (by first | omega | (simp; done) | (simp; omega))).trans (by first | assumption | (simp [*]; done))); (try have qY4 : w1.cell? ⟨W.heap.size + 1, 4, none⟩ = some (.int .i64 y4) := (hc1 _ _ (by first | omega | (simp; done) | (simp; omega))).trans (by first | assumption | (simp [*]; done))); (try have qX0 : w1.cell? ⟨W.heap.size, 0, none⟩ = some (.int .i64 x0) := (hc1 _ _ (by first | omega | (simp; done) | (simp; omega))).trans (by first | assumption | (simp [*]; done))); (try have qX1 : w1.cell? ⟨W.heap.size, 1, none⟩ = some (.string x1) := (hc1 _ _ (by first | omega | (simp; done) | (simp; omega))).trans (by first | assumption | (simp [*]; done))); (try have qX2 : w1.cell? ⟨W.heap.size, 2, none⟩ = some (.int .i64 x2) := (hc1 _ _ (by first | omega | (simp; done) | (simp; omega))).trans (by first | assumption | (simp [*]; done))); (try have qX3 : w1.cell? ⟨W.heap.size, 3, none⟩ = some (.int .i64 x3) := (hc1 _ _ (by first | omega | (simp; done) | (simp; omega))).trans (by first | assumption | (simp [*]; done))); (try have qX4 : w1.cell? ⟨W.heap.size, 4, none⟩ = some (.int .i64 x4) := (hc1 _ _ (by first | omega | (simp; done) | (simp; omega))).trans (by first | assumption | (simp [*]; done))); clear hc1 hf1 hb1)
    | (go_at_call 52; refine (HC.out _).mono ?_; rintro e w3 ⟨rfl, n3, rfl⟩))
  go_wp2
  go_ret
  exact ⟨rfl, by first | assumption | (repeat (first | assumption | exact Below.refl _ _ | apply below_alloc | apply pw_below_drewN | apply below_drew1))⟩
theorem drawn_below {b : Nat} {w a w2 : World} (hb : Below b w a) (h : Drawn0 a w2) : Below b w w2 := by
  obtain ⟨n, rfl⟩ := h
  apply pw_below_drewN
  exact hb
def stepB (a : Int) : Bool := decide (0 ≤ a) && decide (a ≤ 23)
def depthB (a : Int) : Bool := decide (0 ≤ a) && decide (a ≤ 9)
theorem isStep_B (a : Int) : impl_isStep.f a = some (stepB a) := by
  unfold impl_isStep.f
  rw [impl_in_some]
  rfl
def impl_NearestShade.f (k : Nat) (l0 : List (S48)) (a1 : Int) (a2 : Int) : Option (Int × Bool) := (impl_IsShadeCard.f k l0).bind fun t => if t = true then (if stepB a1 = true then (if depthB a2 = true then (if l0.length = 0 then some (0, false) else (slices_MinFunc_impl_Shade_impl_Shade.f (nearOF ⟨#[]⟩ a1 a2) k l0).bind fun r => some (r.1, true)) else some (0, false)) else some (0, false)) else some (0, false)
theorem impl_NearestShade.mono : ∀ a0 a1 a2 k, LeO (impl_NearestShade.f k a0 a1 a2) (impl_NearestShade.f (k + 1) a0 a1 a2) := by
  intro a0 a1 a2 k
  unfold impl_NearestShade.f
  refine LeO.bind (impl_IsShadeCard.mono _ _) (fun t => ?_)
  refine LeO.ite (LeO.ite (LeO.ite (LeO.ite (LeO.refl _) (LeO.bind (slices_MinFunc_impl_Shade_impl_Shade.mono _ _ _) (fun _ => LeO.refl _))) (LeO.refl _)) (LeO.refl _)) (LeO.refl _)
set_option maxHeartbeats 4000000 in
set_option maxRecDepth 100000 in
theorem impl_NearestShade.calls (k : Nat) (A0 : Option Addr) (c0 : Nat) (l0 : List (S48)) (a1 : Int) (a2 : Int) (r1 : Int) (r2 : Bool) (w : World) (hr0 : Kd.C k48 w A0 l0.length l0) (hc0 : l0.length ≤ c0) (h : impl_NearestShade.f k l0 a1 a2 = some (r1, r2)) :
    Calls Tryd.prog 20 #[.slice A0 l0.length c0, .int .i64 a1, .int .i64 a2] w fun e w' => e = .returned (.tuple #[.int .i64 r1, .bool r2]) ∧ Below w.heap.size w w' := by
  have hu_ := Tryd.underlying48
  have e51 : ∀ args w, (callFunc 51 args).run Tryd.prog w = .ok (.enter 51 args) w := enters_of Tryd.func51 (by kernel_rfl) rfl
  unfold impl_NearestShade.f at h
  replace h := Option.bind_eq_some_iff.mp h
  obtain ⟨t, ht, h⟩ := h
  have HA := impl_IsShadeCard.calls k A0 c0 l0 t w hr0 hc0 ht
  have HS := fun V => impl_isStep.calls a1 (stepB a1) V (isStep_B a1)
  have HD := fun V => impl_in.calls a2 0 9 (depthB a2) V (impl_in_some a2 0 9)
  have HR := Aside0.mk hr0
  clear ht hr0
  have no : ∀ {r1 : Int} {r2 : Bool}, some ((0 : Int), false) = some (r1, r2) → r1 = 0 ∧ r2 = false := by
    intro r1 r2 h
    simp only [Option.some.injEq, Prod.mk.injEq] at h
    exact ⟨h.1.symm, h.2.symm⟩
  cases t with
  | false =>
    rw [if_neg (by simp)] at h
    obtain ⟨rfl, rfl⟩ := no h
    clear h no HS HD
    go_enter Tryd.func20, Tryd.ntmps20
    go_wp2_with (go_at_call 11; refine HA.mono ?_; rintro e w1 ⟨rfl, hb⟩; have HB := Aside0.mk hb; clear hb)
    go_ret2
    exact ⟨rfl, HB.out⟩
  | true =>
  rw [if_pos rfl] at h
  cases hs : stepB a1 with
  | false =>
    rw [hs] at h HS
    rw [if_neg (by simp)] at h
    obtain ⟨rfl, rfl⟩ := no h
    clear h no HD hs
    go_enter Tryd.func20, Tryd.ntmps20
    go_wp2_with (first | (go_at_call 11; refine HA.mono ?_; rintro e w1 ⟨rfl, hb⟩; have HB := Aside0.mk hb; clear hb) | (go_at_call 49; refine (HS _).mono ?_; rintro e w2 ⟨rfl, hd2⟩; have HB2 := Aside0.mk (drawn_below HB.out hd2); clear hd2))
    go_ret2
    exact ⟨rfl, by repeat (with_reducible first | exact HB3.out | exact HB2.out | exact HB.out | apply below_alloc | apply pw_below_drewN | apply below_drew1)⟩
  | true =>
  rw [hs] at h HS
  rw [if_pos rfl] at h
  cases hd : depthB a2 with
  | false =>
    rw [hd] at h HD
    rw [if_neg (by simp)] at h
    obtain ⟨rfl, rfl⟩ := no h
    clear h no hs hd
    go_enter Tryd.func20, Tryd.ntmps20
    go_wp2_with (first | (go_at_call 11; refine HA.mono ?_; rintro e w1 ⟨rfl, hb⟩; have HB := Aside0.mk hb; clear hb) | (go_at_call 49; refine (HS _).mono ?_; rintro e w2 ⟨rfl, hd2⟩; have HB2 := Aside0.mk (drawn_below HB.out hd2); clear hd2) | (go_at_call 43; refine (HD _).mono ?_; rintro e w3 ⟨rfl, hd3⟩; have HB3 := Aside0.mk (drawn_below HB2.out hd3); clear hd3))
    go_ret2
    exact ⟨rfl, by repeat (with_reducible first | exact HB3.out | exact HB2.out | exact HB.out | apply below_alloc | apply pw_below_drewN | apply below_drew1)⟩
  | true =>
  rw [hd] at h HD
  rw [if_pos rfl] at h
  by_cases z : l0.length = 0
  · rw [if_pos z] at h
    obtain ⟨rfl, rfl⟩ := no h
    have z1 : ((l0.length : Int) == 0) = true := beq_iff_eq.mpr (by omega)
    have z2 : (l0.length == 0) = true := beq_iff_eq.mpr z
    clear h no hs hd z
    go_enter Tryd.func20, Tryd.ntmps20
    go_wp2_with (first | (go_at_call 11; refine HA.mono ?_; rintro e w1 ⟨rfl, hb⟩; have HB := Aside0.mk hb; clear hb) | (go_at_call 49; refine (HS _).mono ?_; rintro e w2 ⟨rfl, hd2⟩; have HB2 := Aside0.mk (drawn_below HB.out hd2); clear hd2) | (go_at_call 43; refine (HD _).mono ?_; rintro e w3 ⟨rfl, hd3⟩; have HB3 := Aside0.mk (drawn_below HB2.out hd3); clear hd3))
    go_ret2
    exact ⟨rfl, by repeat (with_reducible first | exact HB3.out | exact HB2.out | exact HB.out | apply below_alloc | apply pw_below_drewN | apply below_drew1)⟩
  · rw [if_neg z] at h
    have z1 : ((l0.length : Int) == 0) = false := beq_eq_false_iff_ne.mpr (by omega)
    have z2 : (l0.length == 0) = false := beq_eq_false_iff_ne.mpr z
    replace h := Option.bind_eq_some_iff.mp h
    obtain ⟨⟨q1, q2, q3, q4, q5⟩, hm, h⟩ := h
    simp only [Option.some.injEq, Prod.mk.injEq] at h
    obtain ⟨rfl, rfl⟩ := h
    have HM := Aside0.mk hm
    clear hm no hs hd z
    go_enter Tryd.func20, Tryd.ntmps20
    go_wp2_with (first | (go_at_call 11; refine HA.mono ?_; rintro e w1 ⟨rfl, hb⟩; have HB := Aside0.mk hb; clear hb) | (go_at_call 49; refine (HS _).mono ?_; rintro e w2 ⟨rfl, hd2⟩; have HB2 := Aside0.mk (drawn_below HB.out hd2); clear hd2) | (go_at_call 43; refine (HD _).mono ?_; rintro e w3 ⟨rfl, hd3⟩; have HB3 := Aside0.mk (drawn_below HB2.out hd3); clear hd3) | (go_at_call 50; refine (slices_MinFunc_impl_Shade_impl_Shade.calls (nearOF ⟨#[]⟩ a1 a2) 51 #[.pointer (some ⟨_, 0, none⟩)] e51 k A0 c0 l0 q1 q2 q3 q4 q5 _ ?hF_ ?hR_ hc0 HM.out).mono ?_; (case hR_ => exact Kd.C_below HR.out (by repeat (with_reducible first | exact HB3.out | exact HB2.out | exact HB.out | apply below_alloc | apply pw_below_drewN | apply below_drew1))); (case hF_ => exact (fun W x0 x1 x2 x3 x4 y0 y1 y2 y3 y4 t hW ht => nearLit ⟨#[]⟩ a1 a2 _ W ((hW.cell (p := ⟨_, 0, none⟩) (by simp)).trans (by simp)) ((hW.cell (p := ⟨_, 1, none⟩) (by simp)).trans (by first | (simp; done) | (simp; rfl))) ((hW.cell (p := ⟨_, 2, none⟩) (by simp)).trans (by simp)) ((hW.cell (p := ⟨_, 3, none⟩) (by simp)).trans (by simp)) ((hW.cell (p := ⟨_, 4, none⟩) (by simp)).trans (by simp)) x0 x1 x2 x3 x4 y0 y1 y2 y3 y4 t ht)); rintro e w4 ⟨rfl, hb4⟩; have HB4 := Aside0.mk (below_step (by repeat (with_reducible first | exact HB3.out | exact HB2.out | exact HB.out | apply below_alloc | apply pw_below_drewN | apply below_drew1)) hb4); clear hb4))
    go_ret2
    exact ⟨rfl, by repeat (with_reducible first | exact HB4.out | apply below_alloc | apply pw_below_drewN | apply below_drew1 | apply below_set)⟩


/-! ### laws_FnExactNearestShade: function 5 -/
def laws_FnExactNearestShade.j0 : Nat → List (S47) → List (S48) → Bool → Option (Bool)
  | 0, _, _, _ => none
  | k + 1, x0, x10, x42 => if x42 = true then (some false) else ((laws_toShadeS.f k x0).bind fun t198 => ((laws_eqShadeS.f k x10 t198).bind fun t201 => (if t201 = true then (some true) else (some false))))
def laws_FnExactNearestShade.f (k : Nat) (l0 : List (S47)) (a1 : Int) (a2 : Int) : Option (Bool) := (laws_szShadeS.f k l0 1048576).bind fun t187 => (if t187 < 0 then (some true) else ((laws_toShadeS.f k l0).bind fun t188 => ((spec_NearestShade.f k t188 a1 a2).bind fun bt191 => ((laws_toShadeS.f k l0).bind fun t193 => ((impl_NearestShade.f k t193 a1 a2).bind fun bt196 => (if bt196.1 = bt191.1 then (laws_FnExactNearestShade.j0 k l0 t193 (bt196.2 != bt191.2)) else (laws_FnExactNearestShade.j0 k l0 t193 true)))))))
theorem laws_FnExactNearestShade.mono_l : ∀ k, (∀ y0 y1 y2, LeO (laws_FnExactNearestShade.j0 k y0 y1 y2) (laws_FnExactNearestShade.j0 (k + 1) y0 y1 y2))
  | 0 => fun _ _ _ r h => by simp [laws_FnExactNearestShade.j0] at h
  | k + 1 => by
    have ih0 := laws_FnExactNearestShade.mono_l k
    · intro y0 y1 y2
      unfold laws_FnExactNearestShade.j0
      repeat' first
      | (with_reducible exact ih0 _ _ _)
      | (with_reducible exact impl_NearestShade.mono _ _ _ _)
      | (with_reducible exact laws_eqShadeS.mono _ _ _)
      | (with_reducible exact laws_szShadeS.mono _ _ _)
      | (with_reducible exact laws_toShadeS.mono _ _)
      | (with_reducible exact spec_NearestShade.mono _ _ _ _)
      | (with_reducible exact LeO.refl _)
      | (with_reducible exact LeO.none _)
      | (with_reducible refine LeO.ite ?_ ?_)
      | (with_reducible refine LeO.bind ?_ (fun _ => ?_))
      | exact ih0 _ _ _
      | exact impl_NearestShade.mono _ _ _ _
      | exact laws_eqShadeS.mono _ _ _
      | exact laws_szShadeS.mono _ _ _
      | exact laws_toShadeS.mono _ _
      | exact spec_NearestShade.mono _ _ _ _
      | exact LeO.none _
      | refine LeO.ite ?_ ?_
      | refine LeO.bind ?_ (fun _ => ?_)
theorem laws_FnExactNearestShade.mono : ∀ a0 a1 a2 k, LeO (laws_FnExactNearestShade.f k a0 a1 a2) (laws_FnExactNearestShade.f (k + 1) a0 a1 a2) := by
  intro a0 a1 a2 k
  have ih0 := laws_FnExactNearestShade.mono_l k
  unfold laws_FnExactNearestShade.f
  repeat' first
      | (with_reducible exact ih0 _ _ _)
      | (with_reducible exact impl_NearestShade.mono _ _ _ _)
      | (with_reducible exact laws_eqShadeS.mono _ _ _)
      | (with_reducible exact laws_szShadeS.mono _ _ _)
      | (with_reducible exact laws_toShadeS.mono _ _)
      | (with_reducible exact spec_NearestShade.mono _ _ _ _)
      | (with_reducible exact LeO.refl _)
      | (with_reducible exact LeO.none _)
      | (with_reducible refine LeO.ite ?_ ?_)
      | (with_reducible refine LeO.bind ?_ (fun _ => ?_))
      | exact ih0 _ _ _
      | exact impl_NearestShade.mono _ _ _ _
      | exact laws_eqShadeS.mono _ _ _
      | exact laws_szShadeS.mono _ _ _
      | exact laws_toShadeS.mono _ _
      | exact spec_NearestShade.mono _ _ _ _
      | exact LeO.none _
      | refine LeO.ite ?_ ?_
      | refine LeO.bind ?_ (fun _ => ?_)
set_option maxHeartbeats 8000000 in
set_option maxRecDepth 100000 in
theorem laws_FnExactNearestShade.calls (k : Nat) (A0 : Option Addr) (c0 : Nat) (l0 : List (S47)) (a1 : Int) (a2 : Int) (r : Bool) (w : World) (hr0 : Kd.C k47 w A0 l0.length l0) (hc0 : l0.length ≤ c0) (h : laws_FnExactNearestShade.f k l0 a1 a2 = some r) :
    Calls Tryd.prog 5 #[.slice A0 l0.length c0, .int .i64 a1, .int .i64 a2] w fun e w' => e = .returned (.bool r) ∧ Below w.heap.size w w' := by
  have HR0 := Aside0.mk hr0
  have HC0 := Aside0.mk hc0
  clear hr0 hc0
  have HB := Aside0.mk (Below.refl w.heap.size w)
  have H : ((laws_szShadeS.f k l0 1048576).bind fun t187 => (if t187 < 0 then (some true) else ((laws_toShadeS.f k l0).bind fun t188 => ((spec_NearestShade.f k t188 a1 a2).bind fun bt191 => ((laws_toShadeS.f k l0).bind fun t193 => ((impl_NearestShade.f k t193 a1 a2).bind fun bt196 => (if bt196.1 = bt191.1 then (laws_FnExactNearestShade.j0 k l0 t193 (bt196.2 != bt191.2)) else (laws_FnExactNearestShade.j0 k l0 t193 true)))))))) = some r := h
  clear h
  replace H := Option.bind_eq_some_iff.mp H
  obtain ⟨t187, A40, H⟩ := H
  replace H : (if t187 < 0 then (some true) else ((laws_toShadeS.f k l0).bind fun t188 => ((spec_NearestShade.f k t188 a1 a2).bind fun bt191 => ((laws_toShadeS.f k l0).bind fun t193 => ((impl_NearestShade.f k t193 a1 a2).bind fun bt196 => (if bt196.1 = bt191.1 then (laws_FnExactNearestShade.j0 k l0 t193 (bt196.2 != bt191.2)) else (laws_FnExactNearestShade.j0 k l0 t193 true))))))) = some r := H
  have A4 := Aside0.mk A40
  clear A40
  by_cases c5 : t187 < 0
  · rw [if_pos c5] at H
    have c5b0 : decide (t187 < 0) = true := decide_eq_true c5
    clear c5
    obtain rfl := Option.some.inj H
    go_enter Tryd.func5, Tryd.ntmps5
    go_wp2_with (first | ((with_reducible refine gate_callee (f := 8) rfl ?_); refine goesL_ (some 15) rfl rfl Tryd.func8 (by kernel_rfl) rfl #[.slice A0 l0.length c0, .int .i64 1048576] rfl (by (try simp only [List.map_toArray, List.map_cons, List.map_nil]); first | done | rfl | (simp only [List.length_drop, List.length_take]; rfl)) ?_; (with_reducible refine (laws_szShadeS.calls k _ _ l0 1048576 t187 _ ?side1 ?side2 A4.out).mono ?_); (case side1 => repeat (first | exact HR0.out | (with_reducible refine Kd.C_alloc ?_ _) | (with_reducible refine Kd.C_drewN ?_ _) | (with_reducible refine Kd.C_drew ?_))); (case side2 => exact HC0.out); rintro e w6 ⟨rfl, hb⟩; refine ⟨_, rfl, ?_⟩; have n0_ := Aside0.mk (below_step (by repeat (first | (with_reducible first | exact HB.out | apply below_alloc | apply pw_below_drewN | apply below_drew1) | exact HB.out)) hb); clear HB; have HB := n0_; clear n0_; (try clear hb); (try clear hb2); (try clear hk); (try clear hi)))
    go_ret
    exact ⟨by first | rfl | (simp [errW_none, errW_some] <;> rfl) | (simp [*, errW_none, errW_some] <;> rfl), by repeat (first | (with_reducible first | exact HB.out | apply below_alloc | apply pw_below_drewN | apply below_drew1) | exact HB.out)⟩
  · rw [if_neg c5] at H
    have c5b0 : decide (t187 < 0) = false := decide_eq_false c5
    clear c5
    replace H := Option.bind_eq_some_iff.mp H
    obtain ⟨t188, A70, H⟩ := H
    replace H : ((spec_NearestShade.f k t188 a1 a2).bind fun bt191 => ((laws_toShadeS.f k l0).bind fun t193 => ((impl_NearestShade.f k t193 a1 a2).bind fun bt196 => (if bt196.1 = bt191.1 then (laws_FnExactNearestShade.j0 k l0 t193 (bt196.2 != bt191.2)) else (laws_FnExactNearestShade.j0 k l0 t193 true))))) = some r := H
    have A7 := Aside0.mk A70
    clear A70
    replace H := Option.bind_eq_some_iff.mp H
    obtain ⟨⟨t191, t192⟩, A80, H⟩ := H
    replace H : ((laws_toShadeS.f k l0).bind fun t193 => ((impl_NearestShade.f k t193 a1 a2).bind fun bt196 => (if bt196.1 = t191 then (laws_FnExactNearestShade.j0 k l0 t193 (bt196.2 != t192)) else (laws_FnExactNearestShade.j0 k l0 t193 true)))) = some r := H
    have A8 := Aside0.mk A80
    clear A80
    replace H := Option.bind_eq_some_iff.mp H
    obtain ⟨t193, A90, H⟩ := H
    replace H : ((impl_NearestShade.f k t193 a1 a2).bind fun bt196 => (if bt196.1 = t191 then (laws_FnExactNearestShade.j0 k l0 t193 (bt196.2 != t192)) else (laws_FnExactNearestShade.j0 k l0 t193 true))) = some r := H
    have A9 := Aside0.mk A90
    clear A90
    replace H := Option.bind_eq_some_iff.mp H
    obtain ⟨⟨t196, t197⟩, A100, H⟩ := H
    replace H : (if t196 = t191 then (laws_FnExactNearestShade.j0 k l0 t193 (t197 != t192)) else (laws_FnExactNearestShade.j0 k l0 t193 true)) = some r := H
    have A10 := Aside0.mk A100
    clear A100
    have HC11 := Aside0.mk H
    clear H
    go_enter Tryd.func5, Tryd.ntmps5
    go_upto_region 8 with (first | ((with_reducible refine gate_callee (f := 8) rfl ?_); refine goesL_ (some 15) rfl rfl Tryd.func8 (by kernel_rfl) rfl #[.slice A0 l0.length c0, .int .i64 1048576] rfl (by (try simp only [List.map_toArray, List.map_cons, List.map_nil]); first | done | rfl | (simp only [List.length_drop, List.length_take]; rfl)) ?_; (with_reducible refine (laws_szShadeS.calls k _ _ l0 1048576 t187 _ ?side1 ?side2 A4.out).mono ?_); (case side1 => repeat (first | exact HR0.out | (with_reducible refine Kd.C_alloc ?_ _) | (with_reducible refine Kd.C_drewN ?_ _) | (with_reducible refine Kd.C_drew ?_))); (case side2 => exact HC0.out); rintro e w12 ⟨rfl, hb⟩; refine ⟨_, rfl, ?_⟩; have n0_ := Aside0.mk (below_step (by repeat (first | (with_reducible first | exact HB.out | apply below_alloc | apply pw_below_drewN | apply below_drew1) | exact HB.out)) hb); clear HB; have HB := n0_; clear n0_; (try clear hb); (try clear hb2); (try clear hk); (try clear hi)) | ((with_reducible refine gate_callee (f := 10) rfl ?_); refine goesL_ (some 20) rfl rfl Tryd.func10 (by kernel_rfl) rfl #[.slice A0 l0.length c0] rfl (by (try simp only [List.map_toArray, List.map_cons, List.map_nil]); first | done | rfl | (simp only [List.length_drop, List.length_take]; rfl)) ?_; (with_reducible refine (laws_toShadeS.calls k _ _ l0 t188 _ ?side1 ?side2 A7.out).mono ?_); (case side1 => repeat (first | exact (Kd.C_below HR0.out HB.out) | (with_reducible refine Kd.C_alloc ?_ _) | (with_reducible refine Kd.C_drewN ?_ _) | (with_reducible refine Kd.C_drew ?_))); (case side2 => exact HC0.out); rintro e w13 ⟨v189, rfl, ho0, hb⟩; refine ⟨_, rfl, ?_⟩; have n0_ := Aside0.mk (Kd.R_lower ho0 (below_size (by repeat (first | (with_reducible first | exact HB.out | apply below_alloc | apply pw_below_drewN | apply below_drew1) | exact HB.out)))); have n1_ := Aside0.mk (below_step (by repeat (first | (with_reducible first | exact HB.out | apply below_alloc | apply pw_below_drewN | apply below_drew1) | exact HB.out)) hb); clear HB; have HO190 := n0_; have HB := n1_; clear n0_ n1_; (try clear hb); (try clear hb2); (try clear hk); (try clear hi); (try clear ho0); obtain ⟨Ao14, co14, eo14⟩ := Kd.R_slice HO190.out; subst eo14) | ((with_reducible refine gate_callee (f := 19) rfl ?_); refine goesL_ (some 23) rfl rfl Tryd.func19 (by kernel_rfl) rfl #[.slice Ao14 t188.length co14, .int .i64 a1, .int .i64 a2] rfl (by (try simp only [List.map_toArray, List.map_cons, List.map_nil]); first | done | rfl | (simp only [List.length_drop, List.length_take]; rfl)) ?_; (with_reducible refine (spec_NearestShade.calls k _ _ t188 a1 a2 t191 t192 _ ?side1 ?side2 A8.out).mono ?_); (case side1 => repeat (first | exact (Kd.R_reads' HO190.out).2.2 | (with_reducible refine Kd.C_alloc ?_ _) | (with_reducible refine Kd.C_drewN ?_ _) | (with_reducible refine Kd.C_drew ?_))); (case side2 => exact (Kd.R_reads' HO190.out).2.1); rintro e w15 ⟨rfl, hb⟩; refine ⟨_, rfl, ?_⟩; have n0_ := Aside0.mk (Kd.R_below (by (with_reducible repeat (first | apply Kd.R_alloc | apply Kd.R_drewN | apply Kd.R_drew)); exact HO190.out) hb); have n1_ := Aside0.mk (below_step (by repeat (first | (with_reducible first | exact HB.out | apply below_alloc | apply pw_below_drewN | apply below_drew1) | exact HB.out)) hb); clear HO190; clear HB; have HO190 := n0_; have HB := n1_; clear n0_ n1_; (try clear hb); (try clear hb2); (try clear hk); (try clear hi)) | ((with_reducible refine gate_callee (f := 10) rfl ?_); refine goesL_ (some 27) rfl rfl Tryd.func10 (by kernel_rfl) rfl #[.slice A0 l0.length c0] rfl (by (try simp only [List.map_toArray, List.map_cons, List.map_nil]); first | done | rfl | (simp only [List.length_drop, List.length_take]; rfl)) ?_; (with_reducible refine (laws_toShadeS.calls k _ _ l0 t193 _ ?side1 ?side2 A9.out).mono ?_); (case side1 => repeat (first | exact (Kd.C_below HR0.out HB.out) | (with_reducible refine Kd.C_alloc ?_ _) | (with_reducible refine Kd.C_drewN ?_ _) | (with_reducible refine Kd.C_drew ?_))); (case side2 => exact HC0.out); rintro e w16 ⟨v194, rfl, ho0, hb⟩; refine ⟨_, rfl, ?_⟩; have n0_ := Aside0.mk (Kd.R_elder' (by (with_reducible repeat (first | apply Kd.R_alloc | apply Kd.R_drewN | apply Kd.R_drew)); exact HO190.out) (Kd.R_base ho0) hb); have n1_ := Aside0.mk (Kd.R_lower (Kd.R_new' ho0 (Kd.R_lt (by (with_reducible repeat (first | apply Kd.R_alloc | apply Kd.R_drewN | apply Kd.R_drew)); exact HO190.out))) (below_size (by repeat (first | (with_reducible first | exact HB.out | apply below_alloc | apply pw_below_drewN | apply below_drew1) | exact HB.out)))); have n2_ := Aside0.mk (below_step (by repeat (first | (with_reducible first | exact HB.out | apply below_alloc | apply pw_below_drewN | apply below_drew1) | exact HB.out)) hb); clear HO190; clear HB; have HO190 := n0_; have HO195 := n1_; have HB := n2_; clear n0_ n1_ n2_; (try clear hb); (try clear hb2); (try clear hk); (try clear hi); (try clear ho0); obtain ⟨Ao17, co17, eo17⟩ := Kd.R_slice HO195.out; subst eo17) | ((with_reducible refine gate_callee (f := 20) rfl ?_); refine goesL_ (some 32) rfl rfl Tryd.func20 (by kernel_rfl) rfl #[.slice Ao17 t193.length co17, .int .i64 a1, .int .i64 a2] rfl (by (try simp only [List.map_toArray, List.map_cons, List.map_nil]); first | done | rfl | (simp only [List.length_drop, List.length_take]; rfl)) ?_; (with_reducible refine (impl_NearestShade.calls k _ _ t193 a1 a2 t196 t197 _ ?side1 ?side2 A10.out).mono ?_); (case side1 => repeat (first | exact (Kd.R_reads' HO195.out).2.2 | (with_reducible refine Kd.C_alloc ?_ _) | (with_reducible refine Kd.C_drewN ?_ _) | (with_reducible refine Kd.C_drew ?_))); (case side2 => exact (Kd.R_reads' HO195.out).2.1); rintro e w18 ⟨rfl, hb⟩; refine ⟨_, rfl, ?_⟩; have n0_ := Aside0.mk (Kd.R_below (by (with_reducible repeat (first | apply Kd.R_alloc | apply Kd.R_drewN | apply Kd.R_drew)); exact HO190.out) hb); have n1_ := Aside0.mk (Kd.R_below (by (with_reducible repeat (first | apply Kd.R_alloc | apply Kd.R_drewN | apply Kd.R_drew)); exact HO195.out) hb); have n2_ := Aside0.mk (below_step (by repeat (first | (with_reducible first | exact HB.out | apply below_alloc | apply pw_below_drewN | apply below_drew1) | exact HB.out)) hb); clear HO190; clear HO195; clear HB; have HO190 := n0_; have HO195 := n1_; have HB := n2_; clear n0_ n1_ n2_; (try clear hb); (try clear hb2); (try clear hk); (try clear hi)))
    (try simp only [Act.put, List.setIfInBounds_toArray, List.set_cons_zero, List.set_cons_succ])
    go_cut [42] (fun v42 wc => ∃ (kq : Nat) (x42_10 : Bool), v42 = .bool x42_10 ∧ Aside0 (laws_FnExactNearestShade.j0 kq l0 t193 x42_10 = some r) ∧ Aside0 (kq ≤ k) ∧ Aside0 (Kd.R k48 48 wc w.heap.size (fun _ => True) (.slice Ao17 t193.length co17) t193) ∧ Aside0 (Below w.heap.size w wc))
    case first =>
      have H := HC11.out
      clear HC11
      by_cases c19 : t196 = t191
      · rw [if_pos c19] at H
        have c19b0 : (t196 == t191) = true := beq_iff_eq.mpr c19
        have c19b1 : (t196 != t191) = false := bne_eq_false_iff_eq.mpr c19
        clear c19
        (first | rw [c19b0] | (simp only [i64_w, i32_w]; rw [c19b0]) | skip)
        have H' := Aside0.mk H
        clear H
        go_wp2
        go_meet
        case rel => exact ⟨_, ((t197 != t192)), (by first | rfl | (simp; done) | (simp [*]; done)), H', ⟨by first | omega | exact Nat.le_refl _⟩, ⟨by (with_reducible repeat (first | apply Kd.R_alloc | apply Kd.R_drewN | apply Kd.R_drew)); exact Kd.R_mono HO195.out (fun _ hk => trivial)⟩, ⟨by repeat (first | (with_reducible first | exact HB.out | apply below_alloc | apply pw_below_drewN | apply below_drew1) | exact HB.out)⟩⟩
      · rw [if_neg c19] at H
        have c19b0 : (t196 == t191) = false := beq_eq_false_iff_ne.mpr c19
        have c19b1 : (t196 != t191) = true := bne_iff_ne.mpr c19
        (first | rw [c19b0] | (simp only [i64_w, i32_w]; rw [c19b0]) | skip)
        have H' := Aside0.mk H
        clear H
        go_wp2
        go_meet
        case rel => exact ⟨_, (true), (by first | rfl | (simp; done) | (simp [*]; done)), H', ⟨by first | omega | exact Nat.le_refl _⟩, ⟨by (with_reducible repeat (first | apply Kd.R_alloc | apply Kd.R_drewN | apply Kd.R_drew)); exact Kd.R_mono HO195.out (fun _ hk => trivial)⟩, ⟨by repeat (first | (with_reducible first | exact HB.out | apply below_alloc | apply pw_below_drewN | apply below_drew1) | exact HB.out)⟩⟩
    case rest =>
      clear HC11
      try clear c1
      try clear c2
      try clear p2
      try clear c5
      try clear c5b0
      try clear c8
      try clear c10
      try clear c19
      try clear c19b0
      try clear c19b1
      obtain ⟨kq, x42_10, rfl, HA, HJ10, HO_10, HB⟩ := hcut
      cases kq with
      | zero => exact absurd HA.out (by simp [laws_FnExactNearestShade.j0])
      | succ kj10 =>
        have H := HA.out
        clear HA
        simp only [laws_FnExactNearestShade.j0] at H
        by_cases c20 : x42_10 = true
        · subst c20
          have H1 : (some false) = some r := by rw [if_pos rfl] at H; exact H
          clear H
          have H := H1
          clear H1
          obtain rfl := Option.some.inj H
          go_wp2
          go_ret
          exact ⟨by first | rfl | (simp [errW_none, errW_some] <;> rfl) | (simp [*, errW_none, errW_some] <;> rfl), by repeat (first | (with_reducible first | exact HB.out | apply below_alloc | apply pw_below_drewN | apply below_drew1) | exact HB.out)⟩
        · replace c20 := Bool.eq_false_iff.mpr c20
          subst c20
          have H1 : ((laws_toShadeS.f kj10 l0).bind fun t198 => ((laws_eqShadeS.f kj10 t193 t198).bind fun t201 => (if t201 = true then (some true) else (some false)))) = some r := by rw [if_neg (show ¬ (false = true) by decide)] at H; exact H
          clear H
          have H := H1
          clear H1
          replace H := Option.bind_eq_some_iff.mp H
          obtain ⟨t198, A210, H⟩ := H
          replace H : ((laws_eqShadeS.f kj10 t193 t198).bind fun t201 => (if t201 = true then (some true) else (some false))) = some r := H
          have A21 := Aside0.mk A210
          clear A210
          replace H := Option.bind_eq_some_iff.mp H
          obtain ⟨t201, A220, H⟩ := H
          replace H : (if t201 = true then (some true) else (some false)) = some r := H
          have A22 := Aside0.mk A220
          clear A220
          by_cases c23 : t201 = true
          · subst c23
            have H1 : (some true) = some r := by rw [if_pos rfl] at H; exact H
            clear H
            have H := H1
            clear H1
            obtain rfl := Option.some.inj H
            go_wp2_with (first | ((with_reducible refine gate_callee (f := 10) rfl ?_); refine goesL_ (some 45) rfl rfl Tryd.func10 (by kernel_rfl) rfl #[.slice A0 l0.length c0] rfl (by (try simp only [List.map_toArray, List.map_cons, List.map_nil]); first | done | rfl | (simp only [List.length_drop, List.length_take]; rfl)) ?_; (with_reducible refine (laws_toShadeS.calls kj10 _ _ l0 t198 _ ?side1 ?side2 A21.out).mono ?_); (case side1 => repeat (first | exact (Kd.C_below HR0.out HB.out) | (with_reducible refine Kd.C_alloc ?_ _) | (with_reducible refine Kd.C_drewN ?_ _) | (with_reducible refine Kd.C_drew ?_))); (case side2 => exact HC0.out); rintro e w24 ⟨v199, rfl, ho0, hb⟩; refine ⟨_, rfl, ?_⟩; have n0_ := Aside0.mk (Kd.R_elder' (by (with_reducible repeat (first | apply Kd.R_alloc | apply Kd.R_drewN | apply Kd.R_drew)); exact HO_10.out) (Kd.R_base ho0) hb); have n1_ := Aside0.mk (Kd.R_lower (Kd.R_new' ho0 (Kd.R_lt (by (with_reducible repeat (first | apply Kd.R_alloc | apply Kd.R_drewN | apply Kd.R_drew)); exact HO_10.out))) (below_size (by repeat (first | (with_reducible first | exact HB.out | apply below_alloc | apply pw_below_drewN | apply below_drew1) | exact HB.out)))); have n2_ := Aside0.mk (below_step (by repeat (first | (with_reducible first | exact HB.out | apply below_alloc | apply pw_below_drewN | apply below_drew1) | exact HB.out)) hb); clear HO_10; clear HB; have HO_10 := n0_; have HO200 := n1_; have HB := n2_; clear n0_ n1_ n2_; (try clear hb); (try clear hb2); (try clear hk); (try clear hi); (try clear ho0); obtain ⟨Ao25, co25, eo25⟩ := Kd.R_slice HO200.out; subst eo25) | ((with_reducible refine gate_callee (f := 12) rfl ?_); refine goesL_ (some 46) rfl rfl Tryd.func12 (by kernel_rfl) rfl #[.slice Ao17 t193.length co17, .slice Ao25 t198.length co25] rfl (by (try simp only [List.map_toArray, List.map_cons, List.map_nil]); first | done | rfl | (simp only [List.length_drop, List.length_take]; rfl)) ?_; (with_reducible refine (laws_eqShadeS.calls kj10 _ _ t193 _ _ t198 true _ ?side1 ?side2 ?side3 ?side4 A22.out).mono ?_); (case side1 => repeat (first | exact (Kd.R_reads' HO_10.out).2.2 | (with_reducible refine Kd.C_alloc ?_ _) | (with_reducible refine Kd.C_drewN ?_ _) | (with_reducible refine Kd.C_drew ?_))); (case side2 => exact (Kd.R_reads' HO_10.out).2.1); (case side3 => repeat (first | exact (Kd.R_reads' HO200.out).2.2 | (with_reducible refine Kd.C_alloc ?_ _) | (with_reducible refine Kd.C_drewN ?_ _) | (with_reducible refine Kd.C_drew ?_))); (case side4 => exact (Kd.R_reads' HO200.out).2.1); rintro e w26 ⟨rfl, hb⟩; refine ⟨_, rfl, ?_⟩; have n0_ := Aside0.mk (Kd.R_below (by (with_reducible repeat (first | apply Kd.R_alloc | apply Kd.R_drewN | apply Kd.R_drew)); exact HO_10.out) hb); have n1_ := Aside0.mk (Kd.R_below (by (with_reducible repeat (first | apply Kd.R_alloc | apply Kd.R_drewN | apply Kd.R_drew)); exact HO200.out) hb); have n2_ := Aside0.mk (below_step (by repeat (first | (with_reducible first | exact HB.out | apply below_alloc | apply pw_below_drewN | apply below_drew1) | exact HB.out)) hb); clear HO_10; clear HO200; clear HB; have HO_10 := n0_; have HO200 := n1_; have HB := n2_; clear n0_ n1_ n2_; (try clear hb); (try clear hb2); (try clear hk); (try clear hi)))
            go_ret
            exact ⟨by first | rfl | (simp [errW_none, errW_some] <;> rfl) | (simp [*, errW_none, errW_some] <;> rfl), by repeat (first | (with_reducible first | exact HB.out | apply below_alloc | apply pw_below_drewN | apply below_drew1) | exact HB.out)⟩
          · replace c23 := Bool.eq_false_iff.mpr c23
            subst c23
            have H1 : (some false) = some r := by rw [if_neg (show ¬ (false = true) by decide)] at H; exact H
            clear H
            have H := H1
            clear H1
            obtain rfl := Option.some.inj H
            go_wp2_with (first | ((with_reducible refine gate_callee (f := 10) rfl ?_); refine goesL_ (some 45) rfl rfl Tryd.func10 (by kernel_rfl) rfl #[.slice A0 l0.length c0] rfl (by (try simp only [List.map_toArray, List.map_cons, List.map_nil]); first | done | rfl | (simp only [List.length_drop, List.length_take]; rfl)) ?_; (with_reducible refine (laws_toShadeS.calls kj10 _ _ l0 t198 _ ?side1 ?side2 A21.out).mono ?_); (case side1 => repeat (first | exact (Kd.C_below HR0.out HB.out) | (with_reducible refine Kd.C_alloc ?_ _) | (with_reducible refine Kd.C_drewN ?_ _) | (with_reducible refine Kd.C_drew ?_))); (case side2 => exact HC0.out); rintro e w27 ⟨v199, rfl, ho0, hb⟩; refine ⟨_, rfl, ?_⟩; have n0_ := Aside0.mk (Kd.R_elder' (by (with_reducible repeat (first | apply Kd.R_alloc | apply Kd.R_drewN | apply Kd.R_drew)); exact HO_10.out) (Kd.R_base ho0) hb); have n1_ := Aside0.mk (Kd.R_lower (Kd.R_new' ho0 (Kd.R_lt (by (with_reducible repeat (first | apply Kd.R_alloc | apply Kd.R_drewN | apply Kd.R_drew)); exact HO_10.out))) (below_size (by repeat (first | (with_reducible first | exact HB.out | apply below_alloc | apply pw_below_drewN | apply below_drew1) | exact HB.out)))); have n2_ := Aside0.mk (below_step (by repeat (first | (with_reducible first | exact HB.out | apply below_alloc | apply pw_below_drewN | apply below_drew1) | exact HB.out)) hb); clear HO_10; clear HB; have HO_10 := n0_; have HO200 := n1_; have HB := n2_; clear n0_ n1_ n2_; (try clear hb); (try clear hb2); (try clear hk); (try clear hi); (try clear ho0); obtain ⟨Ao28, co28, eo28⟩ := Kd.R_slice HO200.out; subst eo28) | ((with_reducible refine gate_callee (f := 12) rfl ?_); refine goesL_ (some 46) rfl rfl Tryd.func12 (by kernel_rfl) rfl #[.slice Ao17 t193.length co17, .slice Ao28 t198.length co28] rfl (by (try simp only [List.map_toArray, List.map_cons, List.map_nil]); first | done | rfl | (simp only [List.length_drop, List.length_take]; rfl)) ?_; (with_reducible refine (laws_eqShadeS.calls kj10 _ _ t193 _ _ t198 false _ ?side1 ?side2 ?side3 ?side4 A22.out).mono ?_); (case side1 => repeat (first | exact (Kd.R_reads' HO_10.out).2.2 | (with_reducible refine Kd.C_alloc ?_ _) | (with_reducible refine Kd.C_drewN ?_ _) | (with_reducible refine Kd.C_drew ?_))); (case side2 => exact (Kd.R_reads' HO_10.out).2.1); (case side3 => repeat (first | exact (Kd.R_reads' HO200.out).2.2 | (with_reducible refine Kd.C_alloc ?_ _) | (with_reducible refine Kd.C_drewN ?_ _) | (with_reducible refine Kd.C_drew ?_))); (case side4 => exact (Kd.R_reads' HO200.out).2.1); rintro e w29 ⟨rfl, hb⟩; refine ⟨_, rfl, ?_⟩; have n0_ := Aside0.mk (Kd.R_below (by (with_reducible repeat (first | apply Kd.R_alloc | apply Kd.R_drewN | apply Kd.R_drew)); exact HO_10.out) hb); have n1_ := Aside0.mk (Kd.R_below (by (with_reducible repeat (first | apply Kd.R_alloc | apply Kd.R_drewN | apply Kd.R_drew)); exact HO200.out) hb); have n2_ := Aside0.mk (below_step (by repeat (first | (with_reducible first | exact HB.out | apply below_alloc | apply pw_below_drewN | apply below_drew1) | exact HB.out)) hb); clear HO_10; clear HO200; clear HB; have HO_10 := n0_; have HO200 := n1_; have HB := n2_; clear n0_ n1_ n2_; (try clear hb); (try clear hb2); (try clear hk); (try clear hi)))
            go_ret
            exact ⟨by first | rfl | (simp [errW_none, errW_some] <;> rfl) | (simp [*, errW_none, errW_some] <;> rfl), by repeat (first | (with_reducible first | exact HB.out | apply below_alloc | apply pw_below_drewN | apply below_drew1) | exact HB.out)⟩

end Go.Proofs.YtafokpklcmegaaaDoor.G
