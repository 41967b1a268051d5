-- Printed by a program of this session (wip/tools/gp.sh); Lean checks it.
import Derived.Test.YtcdinmemjkeolaaDoorGx0
import Derived.Test.YtcdinmemjkeolaaDoorGz
import Derived.Test.YtcdinmemjkeolaaDoorGx1
import Derived.Test.YtcdinmemjkeolaaDoorGx2
namespace Go.Proofs.YtcdinmemjkeolaaDoor.G
open Go.RowKit Go.Proofs.YtcdinmemjkeolaaDoorW.PrintWords Go.Proofs.YtcdinmemjkeolaaDoorW.PrintLast Go.Proofs.YtcdinmemjkeolaaDoorW.PrintMore
attribute [local go_sem] isSome_setCell_ max2_int min2_int max_two min_two max_three min_three max_four min_four   -- for this text's walks alone
set_option linter.unusedVariables false
set_option linter.unusedSimpArgs false

-- NOT PRINTED: function 40 (slices_IndexFunc_impl_DyePart_impl_DyePart)

-- NOT PRINTED: function 55 (slices_ContainsFunc_impl_DyePart_impl_DyePart)

/-! ### impl_areAll_impl_DyePart: function 51 -/
/-- The first place of a list at which a test holds, or -1. -/
def idxIDyePart (q : S48 → Bool) : List S48 → Int
 | [] => -1
 | x :: xs => if q x = true then 0 else if idxIDyePart q xs < 0 then -1 else idxIDyePart q xs + 1
theorem idxIDyePart_miss (q : S48 → Bool) : ∀ l : List S48, (∀ j : Nat, j < l.length → q (rd_T48 l j) = false) → idxIDyePart q l = -1
 | [], _ => rfl
 | x :: xs, h => by
  have h0 : q x = false := h 0 (by simp); have h1 := idxIDyePart_miss q xs (fun j hj => by have := h (j + 1) (by simpa using hj); simpa [rd_T48] using this)
  simp [idxIDyePart, h0, h1]
theorem idxIDyePart_hit (q : S48 → Bool) : ∀ (l : List S48) (i : Nat), i < l.length → (∀ j : Nat, j < i → q (rd_T48 l j) = false) → q (rd_T48 l i) = true → idxIDyePart q l = i
 | [], i, h, _, _ => by simp at h
 | x :: xs, 0, _, _, h => by
  have h0 : q x = true := h
  simp [idxIDyePart, h0]
 | x :: xs, i + 1, hl, hm, h => by
  have h0 : q x = false := hm 0 (by omega); have h1 := idxIDyePart_hit q xs i (by simpa using hl) (fun j hj => by have := hm (j + 1) (by omega); simpa [rd_T48] using this) (by simpa [rd_T48] using h)
  have h2 : ¬ ((i : Int) < 0) := by omega
  simp [idxIDyePart, h0, h1, h2]
theorem idxIDyePart_any (q : S48 → Bool) : ∀ l : List S48, decide (0 ≤ idxIDyePart q l) = l.any q
 | [] => rfl
 | x :: xs => by
  have ih := idxIDyePart_any q xs
  cases h0 : q x with
  | true => simp [idxIDyePart, h0]
  | false =>
   simp only [idxIDyePart, h0, List.any_cons, Bool.false_or, ← ih]
   by_cases c : idxIDyePart q xs < 0
   ·simp [c]
   ·simp [c]; omega
theorem notTDyePart (f : Nat) (p : S48 → Bool) (ef : ∀ args w, (callFunc f args).run Tryd.prog w = .ok (.enter f args) w) (hp : ∀ (x : S48) (W : World), Calls Tryd.prog f #[.agg #[.string x.f0, .int .i64 x.f1]] W fun e w' => e = .returned (.bool (p x)) ∧ Below W.heap.size W w') (x : S48) (B : Nat) (W : World) (hB : W.cell? ⟨B, 0, none⟩ = some (.func (.func f) #[] #[])) :
  Calls Tryd.prog 56 #[.agg #[.string x.f0, .int .i64 x.f1], .pointer (some ⟨B, 0, none⟩)] W fun e w' => e = .returned (.bool (!p x)) ∧ Below W.heap.size W w' := by
 have hu_ := Tryd.underlying48; have hlt := World.block_lt_of_cell? W _ hB
 go_enter Tryd.func56, Tryd.ntmps56
 go_wp2_with (go_at_fn f; refine (hp x _).mono ?_; rintro e w' ⟨rfl, hb⟩)
 go_ret
 exact ⟨rfl, below_step (by repeat (first | exact Below.refl _ _ | apply below_alloc | apply pw_below_drewN | apply below_drew1)) hb⟩

set_option maxHeartbeats 2000000 in
theorem indexDyePart (q : S48 → Bool) (g : Nat) (lb : Value) (eg : ∀ args w, (callFunc g args).run Tryd.prog w = .ok (.enter g args) w) (w : World) (hq : ∀ W (x : S48), Below w.heap.size w W → Calls Tryd.prog g #[.agg #[.string x.f0, .int .i64 x.f1], lb] W fun e w' => e = .returned (.bool (q x)) ∧ Below W.heap.size W w')
  (A : Option Addr) (c : Nat) (l : List S48) (hr : Kd.C k48 w A l.length l) (hc : l.length ≤ c) :
  Calls Tryd.prog 40 #[.slice A l.length c, .func (.func g) #[] #[lb]] w fun e w' => e = .returned (.int .i64 (idxIDyePart q l)) ∧ Below w.heap.size w w' := by
 have hu_ := Tryd.underlying48; have hmax := Kd.C_max hr; have HR := zA hr; have HQ := zA hq; clear hr hq
 go_enter Tryd.func40, Tryd.ntmps40
 go_wp2
 go_loopg [5, 8] l.length (fun gg _ s8 wr => ∃ i : Int, 0 ≤ i ∧ i ≤ l.length ∧ (l.length : Int) - i ≤ gg ∧ s8 = .int .i64 i ∧ Aside0 (Below w.heap.size w wr) ∧ Aside0 (∀ j : Nat, (j : Int) < i → q (rd_T48 l j) = false))
 case atStart => exact ⟨0, by omega, by omega, by omega, rfl, ⟨by repeat (first | exact Below.refl _ _ | apply below_alloc | apply pw_below_drewN | apply below_drew1)⟩, ⟨fun j hj => by omega⟩⟩
 case round =>
  obtain ⟨i, h0, h1, hg, rfl, HW, HA⟩ := hrel
  by_cases hlt : i < (l.length : Int)
  ·obtain ⟨ad, e, hx0, hx1⟩ := at_T48 HR.out i h0 hlt
   cases e
   replace hx0 := (HW.out.cell (World.block_lt_of_cell? w _ hx0)).trans hx0
   replace hx1 := (HW.out.cell (World.block_lt_of_cell? w _ hx1)).trans hx1
   cases hv : q (rd_T48 l i) with
   | true =>
    have HV := zA hv; clear hv
    go_wp2_with (go_at_fn g; refine (HQ.out _ (rd_T48 l i) ?hb_).mono ?_; (case hb_ => exact (by repeat (first | (with_reducible first | exact HW.out | apply below_alloc | apply pw_below_drewN | apply below_drew1) | exact HW.out))); rintro e w' ⟨he, hb⟩; rw [HV.out] at he; subst he)
    go_ret
    refine ⟨?_, below_step (by repeat (first | (with_reducible first | exact HW.out | apply below_alloc | apply pw_below_drewN | apply below_drew1) | exact HW.out)) hb⟩
    rw [idxIDyePart_hit q l i.toNat (by omega) (fun j hj => HA.out j (by omega)) (by rw [Int.toNat_of_nonneg h0]; exact HV.out), Int.toNat_of_nonneg h0]
    rfl
   | false =>
    have HV := zA hv; clear hv
    go_wp2_with (go_at_fn g; refine (HQ.out _ (rd_T48 l i) ?hb_).mono ?_; (case hb_ => exact (by repeat (first | (with_reducible first | exact HW.out | apply below_alloc | apply pw_below_drewN | apply below_drew1) | exact HW.out))); rintro e w' ⟨he, hb⟩; rw [HV.out] at he; subst he; have HW2 := zA (below_step (by repeat (first | (with_reducible first | exact HW.out | apply below_alloc | apply pw_below_drewN | apply below_drew1) | exact HW.out)) hb); clear hb HW; have HW := HW2; clear HW2)
    go_roundg (l.length - (i + 1).toNat)
    case measure => omega
    case rel =>
     refine ⟨i + 1, by omega, by omega, by omega, rfl, ⟨by repeat (first | (with_reducible first | exact HW.out | apply below_alloc | apply pw_below_drewN | apply below_drew1) | exact HW.out)⟩, ⟨fun j hj => ?_⟩⟩
     by_cases e : (j : Int) = i
     ·rw [e]; exact HV.out
     ·exact HA.out j (by omega)
  ·have hi : i = l.length := by omega
   have HI := zA hi; clear hi
   go_wp2
   go_ret
   refine ⟨?_, by repeat (first | (with_reducible first | exact HW.out | apply below_alloc | apply pw_below_drewN | apply below_drew1) | exact HW.out)⟩
   rw [idxIDyePart_miss q l (fun j hj => HA.out j (by rw [HI.out]; omega))]
   rfl

theorem containsDyePart (q : S48 → Bool) (g : Nat) (lb : Value) (eg : ∀ args w, (callFunc g args).run Tryd.prog w = .ok (.enter g args) w) (w : World) (hq : ∀ W (x : S48), Below w.heap.size w W → Calls Tryd.prog g #[.agg #[.string x.f0, .int .i64 x.f1], lb] W fun e w' => e = .returned (.bool (q x)) ∧ Below W.heap.size W w')
  (A : Option Addr) (c : Nat) (l : List S48) (hr : Kd.C k48 w A l.length l) (hc : l.length ≤ c) :
  Calls Tryd.prog 55 #[.slice A l.length c, .func (.func g) #[] #[lb]] w fun e w' => e = .returned (.bool (l.any q)) ∧ Below w.heap.size w w' := by
 have HC := indexDyePart q g lb eg w hq A c l hr hc; have hi := idxIDyePart_any q l
 generalize l.any q = b at hi ⊢
 generalize idxIDyePart q l = i at HC hi
 clear hr hc hq eg
 go_enter Tryd.func55, Tryd.ntmps55
 go_wp2_with (go_at_call 40; refine HC.mono ?_; rintro e w' ⟨rfl, hb⟩)
 go_ret
 exact ⟨by rw [← hi]; rfl, hb⟩

theorem areAllDyePart (f : Nat) (p : S48 → Bool) (ef : ∀ args w, (callFunc f args).run Tryd.prog w = .ok (.enter f args) w) (hp : ∀ (x : S48) (W : World), Calls Tryd.prog f #[.agg #[.string x.f0, .int .i64 x.f1]] W fun e w' => e = .returned (.bool (p x)) ∧ Below W.heap.size W w')
  (A : Option Addr) (c : Nat) (l : List S48) (w : World) (hr : Kd.C k48 w A l.length l) (hc : l.length ≤ c) :
  Calls Tryd.prog 51 #[.slice A l.length c, .func (.func f) #[] #[]] w fun e w' => e = .returned (.bool (l.all p)) ∧ Below w.heap.size w w' := by
 have e78 : ∀ args w, (callFunc 56 args).run Tryd.prog w = .ok (.enter 56 args) w := enters_of Tryd.func56 (by kernel_rfl) rfl
 have HC := containsDyePart (fun x => !p x) 56 (.pointer (some ⟨w.heap.size, 0, none⟩)) e78 (w.alloc (.cells #[.func (.func f) #[] #[]] 59)) (fun W x hW => by
  exact notTDyePart f p ef hp x _ _ ((hW.cell (p := ⟨w.heap.size, 0, none⟩) (by simp)).trans (by simp))) A c l (Kd.C_alloc hr _) hc
 have hb : (!(l.any fun x => !p x)) = l.all p := by rw [List.all_eq_not_any_not]
 rw [← hb]
 generalize (l.any fun x => !p x) = b at HC ⊢
 clear hr hc hb
 go_enter Tryd.func51, Tryd.ntmps51
 go_wp2_with (go_at_call 55; refine HC.mono ?_; rintro e w' ⟨rfl, hb⟩)
 go_ret
 exact ⟨rfl, ((Below.refl _ w).alloc (Nat.le_refl _) _).trans (hb.mono (by simp))⟩
theorem impl_in_some (a b c : Int) : impl_in.f a b c = some (decide (b ≤ a) && decide (a ≤ c)) := by
 unfold impl_in.f
 by_cases h : a ≥ b
 ·rw [if_pos h, decide_eq_true (show b ≤ a from h)]; rfl
 ·rw [if_neg h, decide_eq_false (show ¬ b ≤ a from h)]; rfl
set_option maxHeartbeats 4000000 in
theorem impl_IsRecipe_1_total (x : S48) : ∃ b, impl_IsRecipe_1.f x.f0 x.f1 = some b := by
 simp only [impl_IsRecipe_1.f, impl_isWord.f, impl_in_some, Option.bind_some]
 repeat' (first | exact ⟨_, rfl⟩ | split)
def P_impl_IsRecipe_1 (x : S48) : Bool := (impl_IsRecipe_1.f x.f0 x.f1).getD false
theorem P_impl_IsRecipe_1_eq (x : S48) : impl_IsRecipe_1.f x.f0 x.f1 = some (P_impl_IsRecipe_1 x) := by
 unfold P_impl_IsRecipe_1
 have h : ∃ b, impl_IsRecipe_1.f x.f0 x.f1 = some b := impl_IsRecipe_1_total x
 obtain ⟨b, hb⟩ := h
 rw [hb]; rfl
theorem P_impl_IsRecipe_1_pred (x : S48) (W : World) : Calls Tryd.prog 49 #[.agg #[.string x.f0, .int .i64 x.f1]] W fun e w' => e = .returned (.bool (P_impl_IsRecipe_1 x)) ∧ Below W.heap.size W w' := impl_IsRecipe_1.calls x.f0 x.f1 _ W (P_impl_IsRecipe_1_eq x)
def impl_areAll_impl_DyePart.f (l0 : List (S48)) (a1 : Tok) : Option (Bool) := if a1.n = 49 then some (l0.all P_impl_IsRecipe_1) else none
theorem impl_areAll_impl_DyePart.calls (A0 : Option Addr) (c0 : Nat) (l0 : List (S48)) (a1 : Tok) (r : Bool) (w : World) (hr0 : Kd.C k48 w A0 l0.length l0) (hc0 : l0.length ≤ c0) (h : impl_areAll_impl_DyePart.f l0 a1 = some r) :
  Calls Tryd.prog 51 #[.slice A0 l0.length c0, .func (.func a1.n) #[] #[]] w fun e w' => e = .returned (.bool r) ∧ Below w.heap.size w w' := by
 obtain ⟨n_⟩ := a1
 unfold impl_areAll_impl_DyePart.f at h
 dsimp only at h ⊢
 by_cases c_ : n_ = 49
 ·subst c_
  rw [if_pos rfl] at h
  obtain rfl := Option.some.inj h
  exact areAllDyePart 49 P_impl_IsRecipe_1 (enters_of Tryd.func49 (by kernel_rfl) rfl) P_impl_IsRecipe_1_pred A0 c0 l0 w hr0 hc0
 rw [if_neg c_] at h
 exact absurd h (by simp)


/-! ### impl_IsRecipe: function 42 -/
mutual
def impl_IsRecipe.j0 : Nat → List (S48) → Bool → Option (Bool)
 | 0, _, _ => none
 | k + 1, x0, x14 => if x14 = true then (some false) else (impl_IsRecipe.l0 k x0 1)
def impl_IsRecipe.l0 : Nat → List (S48) → Int → Option (Bool)
 | 0, _, _ => none
 | k + 1, x0, x4 => if x4 < (x0.length : Int) then (if 0 ≤ (wrap64 (x4 - 1)) then (if (wrap64 (x4 - 1)) < (x0.length : Int) then (if 0 ≤ x4 then (if ((Op.bytesLess (((rd_T48 x0 (wrap64 (x4 - 1))).f0).toList) (((rd_T48 x0 x4).f0).toList)) = true) then (impl_IsRecipe.l0 k x0 (wrap64 (x4 + 1))) else (some false)) else (none)) else (none)) else (none)) else (some true)
end
def impl_IsRecipe.f (k : Nat) (l0 : List (S48)) : Option (Bool) := (impl_in.f (l0.length : Int) 1 6).bind fun t200 => (if t200 = true then ((impl_areAll_impl_DyePart.f l0 FN49).bind fun t201 => (impl_IsRecipe.j0 k l0 (!t201))) else (impl_IsRecipe.j0 k l0 true))
theorem impl_IsRecipe.mono_l : ∀ k, (∀ y0 y1, LeO (impl_IsRecipe.j0 k y0 y1) (impl_IsRecipe.j0 (k + 1) y0 y1)) ∧ (∀ y0 y1, LeO (impl_IsRecipe.l0 k y0 y1) (impl_IsRecipe.l0 (k + 1) y0 y1))
 | 0 => ⟨fun _ _ r h => by simp [impl_IsRecipe.j0] at h, fun _ _ r h => by simp [impl_IsRecipe.l0] at h⟩
 | k + 1 => by
  obtain ⟨ih0, ih1⟩ := impl_IsRecipe.mono_l k
  refine ⟨?_, ?_⟩
  ·intro y0 y1
   unfold impl_IsRecipe.j0
   repeat' first
   | (with_reducible exact ih0 _ _)
   | (with_reducible exact ih1 _ _)
   | (with_reducible exact LeO.refl _)
   | (with_reducible exact LeO.none _)
   | (with_reducible refine LeO.ite ?_ ?_)
   | (with_reducible refine LeO.bind ?_ (fun _ => ?_))
   | exact ih0 _ _
   | exact ih1 _ _
   | exact LeO.none _
   | refine LeO.ite ?_ ?_
   | refine LeO.bind ?_ (fun _ => ?_)
  ·intro y0 y1
   unfold impl_IsRecipe.l0
   repeat' first
   | (with_reducible exact ih0 _ _)
   | (with_reducible exact ih1 _ _)
   | (with_reducible exact LeO.refl _)
   | (with_reducible exact LeO.none _)
   | (with_reducible refine LeO.ite ?_ ?_)
   | (with_reducible refine LeO.bind ?_ (fun _ => ?_))
   | exact ih0 _ _
   | exact ih1 _ _
   | exact LeO.none _
   | refine LeO.ite ?_ ?_
   | refine LeO.bind ?_ (fun _ => ?_)
theorem impl_IsRecipe.mono : ∀ a0 k, LeO (impl_IsRecipe.f k a0) (impl_IsRecipe.f (k + 1) a0) := by
 intro a0 k
 obtain ⟨ih0, ih1⟩ := impl_IsRecipe.mono_l k
 unfold impl_IsRecipe.f
 repeat' first
   | (with_reducible exact ih0 _ _)
   | (with_reducible exact ih1 _ _)
   | (with_reducible exact LeO.refl _)
   | (with_reducible exact LeO.none _)
   | (with_reducible refine LeO.ite ?_ ?_)
   | (with_reducible refine LeO.bind ?_ (fun _ => ?_))
   | exact ih0 _ _
   | exact ih1 _ _
   | exact LeO.none _
   | refine LeO.ite ?_ ?_
   | refine LeO.bind ?_ (fun _ => ?_)
set_option maxHeartbeats 8000000 in
set_option maxRecDepth 100000 in
theorem impl_IsRecipe.calls (k : Nat) (A0 : Option Addr) (c0 : Nat) (l0 : List (S48)) (r : Bool) (w : World) (hr0 : Kd.C k48 w A0 l0.length l0) (hc0 : l0.length ≤ c0) (h : impl_IsRecipe.f k l0 = some r) :
  Calls Tryd.prog 42 #[.slice A0 l0.length c0] w fun e w' => e = .returned (.bool r) ∧ Below w.heap.size w w' := by
 have HR0 := zA hr0; have HC0 := zA hc0; clear hr0 hc0; have HB := zA (Below.refl w.heap.size w); have H : ((impl_in.f (l0.length : Int) 1 6).bind fun t200 => (if t200 = true then ((impl_areAll_impl_DyePart.f l0 FN49).bind fun t201 => (impl_IsRecipe.j0 k l0 (!t201))) else (impl_IsRecipe.j0 k l0 true))) = some r := h; clear h; have HC2 := zA H; clear H
 go_enter Tryd.func42, Tryd.ntmps42
 go_upto_region 2 with (fail)
 repeat (go_quiet (fail); go_upto_region 2 with (fail))
 go_cut [14] (fun v14 wc => ∃ (kq : Nat) (x14_1 : Bool), v14 = .bool x14_1 ∧ Aside0 (impl_IsRecipe.j0 kq l0 x14_1 = some r) ∧ Aside0 (kq ≤ k) ∧ Aside0 (Below w.heap.size w wc))
 case first =>
  have H := HC2.out; clear HC2
  replace H := Option.bind_eq_some_iff.mp H
  obtain ⟨t200, A30, H⟩ := H
  replace H : (if t200 = true then ((impl_areAll_impl_DyePart.f l0 FN49).bind fun t201 => (impl_IsRecipe.j0 k l0 (!t201))) else (impl_IsRecipe.j0 k l0 true)) = some r := H
  have A3 := zA A30; clear A30
  by_cases c4 : t200 = true
  ·subst c4
   have H1 : ((impl_areAll_impl_DyePart.f l0 FN49).bind fun t201 => (impl_IsRecipe.j0 k l0 (!t201))) = some r := by rw [if_pos rfl] at H; exact H
   clear H; have H := H1; clear H1
   replace H := Option.bind_eq_some_iff.mp H
   obtain ⟨t201, A50, H⟩ := H
   replace H : (impl_IsRecipe.j0 k l0 (!t201)) = some r := H
   have A5 := zA A50; clear A50; have H' := zA H; clear H
   go_wp2_with (first | (go_at_call 43; (with_reducible refine (impl_in.calls (l0.length : Int) 1 6 true _ A3.out).mono ?_); rintro e w' ⟨rfl, ⟨nd, rfl⟩⟩; (try first | exact ⟨rfl, _, World.drewN_drewN _ _ _⟩ | exact ⟨rfl, _, Eq.trans (World.drewN_drewN _ _ _) (congrArg (World.drewN _) (Nat.add_assoc _ _ _))⟩)) | (go_at_call 51; (with_reducible refine (impl_areAll_impl_DyePart.calls _ _ l0 FN49 t201 _ ?side1 ?side2 A5.out).mono ?_); (case side1 => repeat (first | exact (Kd.C_below HR0.out (zW HB)) | (with_reducible refine Kd.C_alloc ?_ _) | (with_reducible refine Kd.C_drewN ?_ _) | (with_reducible refine Kd.C_drew ?_))); (case side2 => exact HC0.out); rintro e w6 ⟨rfl, hb⟩; have n0_ := zA (below_step (zW HB) hb); clear HB; have HB := n0_; clear n0_; (try clear hb); (try clear hb2); (try clear hk); (try clear hi)))
   repeat (go_quiet (first | (go_at_call 43; (with_reducible refine (impl_in.calls (l0.length : Int) 1 6 true _ A3.out).mono ?_); rintro e w' ⟨rfl, ⟨nd, rfl⟩⟩; (try first | exact ⟨rfl, _, World.drewN_drewN _ _ _⟩ | exact ⟨rfl, _, Eq.trans (World.drewN_drewN _ _ _) (congrArg (World.drewN _) (Nat.add_assoc _ _ _))⟩)) | (go_at_call 51; (with_reducible refine (impl_areAll_impl_DyePart.calls _ _ l0 FN49 t201 _ ?side1 ?side2 A5.out).mono ?_); (case side1 => repeat (first | exact (Kd.C_below HR0.out (zW HB)) | (with_reducible refine Kd.C_alloc ?_ _) | (with_reducible refine Kd.C_drewN ?_ _) | (with_reducible refine Kd.C_drew ?_))); (case side2 => exact HC0.out); rintro e w6 ⟨rfl, hb⟩; have n0_ := zA (below_step (zW HB) hb); clear HB; have HB := n0_; clear n0_; (try clear hb); (try clear hb2); (try clear hk); (try clear hi))); try go_wp2_with (first | (go_at_call 43; (with_reducible refine (impl_in.calls (l0.length : Int) 1 6 true _ A3.out).mono ?_); rintro e w' ⟨rfl, ⟨nd, rfl⟩⟩; (try first | exact ⟨rfl, _, World.drewN_drewN _ _ _⟩ | exact ⟨rfl, _, Eq.trans (World.drewN_drewN _ _ _) (congrArg (World.drewN _) (Nat.add_assoc _ _ _))⟩)) | (go_at_call 51; (with_reducible refine (impl_areAll_impl_DyePart.calls _ _ l0 FN49 t201 _ ?side1 ?side2 A5.out).mono ?_); (case side1 => repeat (first | exact (Kd.C_below HR0.out (zW HB)) | (with_reducible refine Kd.C_alloc ?_ _) | (with_reducible refine Kd.C_drewN ?_ _) | (with_reducible refine Kd.C_drew ?_))); (case side2 => exact HC0.out); rintro e w6 ⟨rfl, hb⟩; have n0_ := zA (below_step (zW HB) hb); clear HB; have HB := n0_; clear n0_; (try clear hb); (try clear hb2); (try clear hk); (try clear hi))))
   go_meet
   case rel => exact ⟨_, (!t201), (by first | rfl | (simp; done) | (simp [*]; done)), H', ⟨by first | omega | exact Nat.le_refl _⟩, ⟨by repeat (first | (with_reducible first | exact HB.out | apply below_alloc | apply pw_below_drewN | apply below_drew1) | exact HB.out)⟩⟩
  ·replace c4 := Bool.eq_false_iff.mpr c4
   subst c4
   have H1 : (impl_IsRecipe.j0 k l0 true) = some r := by rw [if_neg (show ¬ (false = true) by decide)] at H; exact H
   clear H; have H := H1; clear H1; have H' := zA H; clear H
   go_wp2_with (first | (go_at_call 43; (with_reducible refine (impl_in.calls (l0.length : Int) 1 6 false _ A3.out).mono ?_); rintro e w' ⟨rfl, ⟨nd, rfl⟩⟩; (try first | exact ⟨rfl, _, World.drewN_drewN _ _ _⟩ | exact ⟨rfl, _, Eq.trans (World.drewN_drewN _ _ _) (congrArg (World.drewN _) (Nat.add_assoc _ _ _))⟩)))
   repeat (go_quiet (first | (go_at_call 43; (with_reducible refine (impl_in.calls (l0.length : Int) 1 6 false _ A3.out).mono ?_); rintro e w' ⟨rfl, ⟨nd, rfl⟩⟩; (try first | exact ⟨rfl, _, World.drewN_drewN _ _ _⟩ | exact ⟨rfl, _, Eq.trans (World.drewN_drewN _ _ _) (congrArg (World.drewN _) (Nat.add_assoc _ _ _))⟩))); try go_wp2_with (first | (go_at_call 43; (with_reducible refine (impl_in.calls (l0.length : Int) 1 6 false _ A3.out).mono ?_); rintro e w' ⟨rfl, ⟨nd, rfl⟩⟩; (try first | exact ⟨rfl, _, World.drewN_drewN _ _ _⟩ | exact ⟨rfl, _, Eq.trans (World.drewN_drewN _ _ _) (congrArg (World.drewN _) (Nat.add_assoc _ _ _))⟩))))
   go_meet
   case rel => exact ⟨_, (true), (by first | rfl | (simp; done) | (simp [*]; done)), H', ⟨by first | omega | exact Nat.le_refl _⟩, ⟨by repeat (first | (with_reducible first | exact HB.out | apply below_alloc | apply pw_below_drewN | apply below_drew1) | exact HB.out)⟩⟩
 case rest =>
  clear HC2
  try clear p2; try clear c4
  obtain ⟨kq, x14_1, rfl, HA, HJ1, HB⟩ := hcut
  cases kq with
  | zero => exact absurd HA.out (by simp [impl_IsRecipe.j0])
  | succ kj1 =>
   have H := HA.out; clear HA
   simp only [impl_IsRecipe.j0] at H
   by_cases c7 : x14_1 = true
   ·subst c7
    have H1 : (some false) = some r := by rw [if_pos rfl] at H; exact H
    clear H; have H := H1; clear H1
    obtain rfl := Option.some.inj H
    go_wp2
    repeat (go_quiet (fail); try go_wp2)
    go_ret
    exact ⟨by first | rfl | (simp [errW_none, errW_some] <;> rfl) | (simp [*, errW_none, errW_some] <;> rfl), by repeat (first | (with_reducible first | exact HB.out | apply below_alloc | apply pw_below_drewN | apply below_drew1) | exact HB.out)⟩
   ·replace c7 := Bool.eq_false_iff.mpr c7
    subst c7
    have H1 : (impl_IsRecipe.l0 kj1 l0 1) = some r := by rw [if_neg (show ¬ (false = true) by decide)] at H; exact H
    clear H; have H := H1; clear H1; have H' := zA H; clear H
    go_wp2
    repeat (go_quiet (fail); try go_wp2)
    go_loopg [4] kj1 (fun kq v4 w' => ∃ (x4_2 : Int), v4 = .int .i64 x4_2 ∧ Aside0 (impl_IsRecipe.l0 kq l0 x4_2 = some r) ∧ Aside0 (kq ≤ kj1) ∧ Aside0 (Below w.heap.size w w'))
    case atStart => exact ⟨(1), (by first | rfl | (simp; done) | (simp [*]; done)), H', ⟨Nat.le_refl _⟩, ⟨by repeat (first | (with_reducible first | exact HB.out | apply below_alloc | apply pw_below_drewN | apply below_drew1) | exact HB.out)⟩⟩
    case round =>
     clear H'
     try clear p2; try clear c4; try clear c7; try clear p2
     obtain ⟨x4_2, rfl, HA, HK2, HB⟩ := hrel
     cases gk with
     | zero => exact absurd HA.out (by simp [impl_IsRecipe.l0])
     | succ k2 =>
      have H := HA.out; clear HA
      simp only [impl_IsRecipe.l0] at H
      by_cases c8 : x4_2 < (l0.length : Int)
      ·rw [if_pos c8] at H
       have c8b0 : decide (x4_2 < (l0.length : Int)) = true := decide_eq_true c8; clear c8
       obtain ⟨ji9, hji9⟩ : ∃ j_ : Int, (wrap64 (x4_2 - 1)) = j_ := ⟨_, rfl⟩
       replace H : (if 0 ≤ (ji9) then (if (ji9) < (l0.length : Int) then (if 0 ≤ x4_2 then (if ((Op.bytesLess (((rd_T48 l0 (ji9)).f0).toList) (((rd_T48 l0 x4_2).f0).toList)) = true) then (impl_IsRecipe.l0 k2 l0 (wrap64 (x4_2 + 1))) else (some false)) else (none)) else (none)) else (none)) = some r := by first | (rw [hji9] at H; exact H) | (simp only [hji9] at H ⊢; exact H)
       have hji9w : (IntKind.i64.wrap (x4_2 - 1)) = ji9 := (i64_w _).trans hji9
       by_cases c10 : 0 ≤ (ji9)
       ·rw [if_pos c10] at H
        have c10b0 : decide (0 ≤ (ji9)) = true := decide_eq_true c10; clear c10
        by_cases c11 : (ji9) < (l0.length : Int)
        ·rw [if_pos c11] at H
         have c11b0 : decide ((ji9) < (l0.length : Int)) = true := decide_eq_true c11; clear c11
         by_cases c12 : 0 ≤ x4_2
         ·rw [if_pos c12] at H
          have c12b0 : decide (0 ≤ x4_2) = true := decide_eq_true c12; clear c12
          by_cases c13 : ((Op.bytesLess (((rd_T48 l0 (ji9)).f0).toList) (((rd_T48 l0 x4_2).f0).toList)) = true)
          ·rw [if_pos c13] at H
           have c13b0 : (Op.bytesLess (((rd_T48 l0 (ji9)).f0).toList) (((rd_T48 l0 x4_2).f0).toList)) = true := c13; clear c13; have H' := zA H; clear H; have p202 : 0 ≤ ((ji9) : Int) := of_decide_eq_true (by first | (with_reducible assumption) | assumption); have q202 : (ji9) < (l0.length : Int) := of_decide_eq_true (by first | (with_reducible assumption) | assumption)
           obtain ⟨ad202, e202, hx202_0, hx202_1⟩ := at_T48 HR0.out (ji9) p202 q202
           cases e202
           replace hx202_0 := (HB.out.cell (World.block_lt_of_cell? w _ hx202_0)).trans hx202_0
           replace hx202_1 := (HB.out.cell (World.block_lt_of_cell? w _ hx202_1)).trans hx202_1
           replace p202 := eq_true p202
           replace q202 := eq_true q202
           have p203 : 0 ≤ (x4_2 : Int) := of_decide_eq_true (by first | (with_reducible assumption) | assumption); have q203 : x4_2 < (l0.length : Int) := of_decide_eq_true (by first | (with_reducible assumption) | assumption)
           obtain ⟨ad203, e203, hx203_0, hx203_1⟩ := at_T48 HR0.out x4_2 p203 q203
           obtain rfl : ad202 = ad203 := (by injection e203)
           replace hx203_0 := (HB.out.cell (World.block_lt_of_cell? w _ hx203_0)).trans hx203_0
           replace hx203_1 := (HB.out.cell (World.block_lt_of_cell? w _ hx203_1)).trans hx203_1
           replace p203 := eq_true p203
           replace q203 := eq_true q203
           go_wp2
           repeat (go_quiet (fail); try go_wp2)
           go_roundg k2
           case measure => have := HJ1.out; have := HK2.out; omega
           case rel => exact ⟨(wrap64 (x4_2 + 1)), (by first | rfl | (simp; done) | (simp [*]; done)), H', ⟨by have := HJ1.out; have := HK2.out; omega⟩, ⟨by repeat (first | (with_reducible first | exact HB.out | apply below_alloc | apply pw_below_drewN | apply below_drew1) | exact HB.out)⟩⟩
          ·rw [if_neg c13] at H
           have c13b0 : (Op.bytesLess (((rd_T48 l0 (ji9)).f0).toList) (((rd_T48 l0 x4_2).f0).toList)) = false := by simpa using c13
           clear c13
           obtain rfl := Option.some.inj H
           have p202 : 0 ≤ ((ji9) : Int) := of_decide_eq_true (by first | (with_reducible assumption) | assumption); have q202 : (ji9) < (l0.length : Int) := of_decide_eq_true (by first | (with_reducible assumption) | assumption)
           obtain ⟨ad202, e202, hx202_0, hx202_1⟩ := at_T48 HR0.out (ji9) p202 q202
           cases e202
           replace hx202_0 := (HB.out.cell (World.block_lt_of_cell? w _ hx202_0)).trans hx202_0
           replace hx202_1 := (HB.out.cell (World.block_lt_of_cell? w _ hx202_1)).trans hx202_1
           replace p202 := eq_true p202
           replace q202 := eq_true q202
           have p203 : 0 ≤ (x4_2 : Int) := of_decide_eq_true (by first | (with_reducible assumption) | assumption); have q203 : x4_2 < (l0.length : Int) := of_decide_eq_true (by first | (with_reducible assumption) | assumption)
           obtain ⟨ad203, e203, hx203_0, hx203_1⟩ := at_T48 HR0.out x4_2 p203 q203
           obtain rfl : ad202 = ad203 := (by injection e203)
           replace hx203_0 := (HB.out.cell (World.block_lt_of_cell? w _ hx203_0)).trans hx203_0
           replace hx203_1 := (HB.out.cell (World.block_lt_of_cell? w _ hx203_1)).trans hx203_1
           replace p203 := eq_true p203
           replace q203 := eq_true q203
           go_wp2
           repeat (go_quiet (fail); try go_wp2)
           go_ret
           exact ⟨by first | rfl | (simp [errW_none, errW_some] <;> rfl) | (simp only [← hji9]; first | rfl | (simp [errW_none, errW_some] <;> rfl)) | (simp [*, errW_none, errW_some] <;> rfl), by repeat (first | (with_reducible first | exact HB.out | apply below_alloc | apply pw_below_drewN | apply below_drew1) | exact HB.out)⟩
         ·rw [if_neg c12] at H
          exact absurd H (by simp)
        ·rw [if_neg c11] at H
         exact absurd H (by simp)
       ·rw [if_neg c10] at H
        exact absurd H (by simp)
      ·rw [if_neg c8] at H
       have c8b0 : decide (x4_2 < (l0.length : Int)) = false := decide_eq_false c8; clear c8
       obtain rfl := Option.some.inj H
       go_wp2
       repeat (go_quiet (fail); try go_wp2)
       go_ret
       exact ⟨by first | rfl | (simp [errW_none, errW_some] <;> rfl) | (simp [*, errW_none, errW_some] <;> rfl), by repeat (first | (with_reducible first | exact HB.out | apply below_alloc | apply pw_below_drewN | apply below_drew1) | exact HB.out)⟩

-- NOT PRINTED: function 57 (slices_IndexFunc_int_int)

-- NOT PRINTED: function 52 (slices_ContainsFunc_int_int)

end Go.Proofs.YtcdinmemjkeolaaDoor.G
