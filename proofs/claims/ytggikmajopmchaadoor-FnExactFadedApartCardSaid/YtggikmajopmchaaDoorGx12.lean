-- Printed by a program of this session (wip/tools/gp.sh); Lean checks it.
import Derived.Test.YtggikmajopmchaaDoorGx0
import Derived.Test.YtggikmajopmchaaDoorGx1
import Derived.Test.YtggikmajopmchaaDoorGx2
namespace Go.Proofs.YtggikmajopmchaaDoor.G
open Go.RowKit Go.Proofs.YtggikmajopmchaaDoorW.PrintWords Go.Proofs.YtggikmajopmchaaDoorW.PrintLast Go.Proofs.YtggikmajopmchaaDoorW.PrintMore
attribute [local go_sem] isSome_setCell_ max2_int min2_int max_two min_two max_three min_three max_four min_four   -- for this text's walks alone
set_option linter.unusedVariables false
set_option linter.unusedSimpArgs false

-- NOT PRINTED: function 54 (slices_IndexFunc_impl_Shade_impl_Shade)

-- NOT PRINTED: function 43 (slices_ContainsFunc_impl_Shade_impl_Shade)

/-! ### impl_areAll_impl_Shade: function 39 -/
/-- The first place of a list at which a test holds, or -1. -/
def idxIShade (q : S42 → Bool) : List S42 → Int
  | [] => -1
  | x :: xs => if q x = true then 0 else if idxIShade q xs < 0 then -1 else idxIShade q xs + 1
theorem idxIShade_miss (q : S42 → Bool) : ∀ l : List S42, (∀ j : Nat, j < l.length → q (rd_T42 l j) = false) → idxIShade q l = -1
  | [], _ => rfl
  | x :: xs, h => by
    have h0 : q x = false := h 0 (by simp)
    have h1 := idxIShade_miss q xs (fun j hj => by have := h (j + 1) (by simpa using hj); simpa [rd_T42] using this)
    simp [idxIShade, h0, h1]
theorem idxIShade_hit (q : S42 → Bool) : ∀ (l : List S42) (i : Nat), i < l.length → (∀ j : Nat, j < i → q (rd_T42 l j) = false) → q (rd_T42 l i) = true → idxIShade q l = i
  | [], i, h, _, _ => by simp at h
  | x :: xs, 0, _, _, h => by
    have h0 : q x = true := h
    simp [idxIShade, h0]
  | x :: xs, i + 1, hl, hm, h => by
    have h0 : q x = false := hm 0 (by omega)
    have h1 := idxIShade_hit q xs i (by simpa using hl) (fun j hj => by have := hm (j + 1) (by omega); simpa [rd_T42] using this) (by simpa [rd_T42] using h)
    have h2 : ¬ ((i : Int) < 0) := by omega
    simp [idxIShade, h0, h1, h2]
theorem idxIShade_any (q : S42 → Bool) : ∀ l : List S42, decide (0 ≤ idxIShade q l) = l.any q
  | [] => rfl
  | x :: xs => by
    have ih := idxIShade_any q xs
    cases h0 : q x with
    | true => simp [idxIShade, h0]
    | false =>
      simp only [idxIShade, h0, List.any_cons, Bool.false_or, ← ih]
      by_cases c : idxIShade q xs < 0
      · simp [c]
      · simp [c]; omega
theorem notTShade (f : Nat) (p : S42 → Bool) (ef : ∀ args w, (callFunc f args).run Tryd.prog w = .ok (.enter f args) w) (hp : ∀ (x : S42) (W : World), Calls Tryd.prog f #[.agg #[.int .i64 x.f0, .string x.f1, .int .i64 x.f2, .int .i64 x.f3, .int .i64 x.f4]] W fun e w' => e = .returned (.bool (p x)) ∧ Below W.heap.size W w') (x : S42) (B : Nat) (W : World) (hB : W.cell? ⟨B, 0, none⟩ = some (.func (.func f) #[] #[])) :
    Calls Tryd.prog 50 #[.agg #[.int .i64 x.f0, .string x.f1, .int .i64 x.f2, .int .i64 x.f3, .int .i64 x.f4], .pointer (some ⟨B, 0, none⟩)] W fun e w' => e = .returned (.bool (!p x)) ∧ Below W.heap.size W w' := by
  have hu_ := Tryd.underlying42
  have hlt := World.block_lt_of_cell? W _ hB
  go_enter Tryd.func50, Tryd.ntmps50
  go_wp2_with (go_at_fn f; refine (hp x _).mono ?_; rintro e w' ⟨rfl, hb⟩)
  go_ret
  exact ⟨rfl, below_step (by repeat (first | exact Below.refl _ _ | apply below_alloc | apply pw_below_drewN | apply below_drew1)) hb⟩

set_option maxHeartbeats 2000000 in
theorem indexShade (q : S42 → Bool) (g : Nat) (lb : Value) (eg : ∀ args w, (callFunc g args).run Tryd.prog w = .ok (.enter g args) w) (w : World) (hq : ∀ W (x : S42), Below w.heap.size w W → Calls Tryd.prog g #[.agg #[.int .i64 x.f0, .string x.f1, .int .i64 x.f2, .int .i64 x.f3, .int .i64 x.f4], lb] W fun e w' => e = .returned (.bool (q x)) ∧ Below W.heap.size W w')
    (A : Option Addr) (c : Nat) (l : List S42) (hr : Kd.C k42 w A l.length l) (hc : l.length ≤ c) :
    Calls Tryd.prog 54 #[.slice A l.length c, .func (.func g) #[] #[lb]] w fun e w' => e = .returned (.int .i64 (idxIShade q l)) ∧ Below w.heap.size w w' := by
  have hu_ := Tryd.underlying42
  have hmax := Kd.C_max hr
  have HR := Aside0.mk hr
  have HQ := Aside0.mk hq
  clear hr hq
  go_enter Tryd.func54, Tryd.ntmps54
  go_wp2
  go_loopg [5, 8] l.length (fun gg _ s8 wr => ∃ i : Int, 0 ≤ i ∧ i ≤ l.length ∧ (l.length : Int) - i ≤ gg ∧ s8 = .int .i64 i ∧ Aside0 (Below w.heap.size w wr) ∧ Aside0 (∀ j : Nat, (j : Int) < i → q (rd_T42 l j) = false))
  case atStart => exact ⟨0, by omega, by omega, by omega, rfl, ⟨by repeat (first | exact Below.refl _ _ | apply below_alloc | apply pw_below_drewN | apply below_drew1)⟩, ⟨fun j hj => by omega⟩⟩
  case round =>
    obtain ⟨i, h0, h1, hg, rfl, HW, HA⟩ := hrel
    by_cases hlt : i < (l.length : Int)
    · obtain ⟨ad, e, hx0, hx1, hx2, hx3, hx4⟩ := at_T42 HR.out i h0 hlt
      cases e
      replace hx0 := (HW.out.cell (World.block_lt_of_cell? w _ hx0)).trans hx0
      replace hx1 := (HW.out.cell (World.block_lt_of_cell? w _ hx1)).trans hx1
      replace hx2 := (HW.out.cell (World.block_lt_of_cell? w _ hx2)).trans hx2
      replace hx3 := (HW.out.cell (World.block_lt_of_cell? w _ hx3)).trans hx3
      replace hx4 := (HW.out.cell (World.block_lt_of_cell? w _ hx4)).trans hx4
      cases hv : q (rd_T42 l i) with
      | true =>
        have HV := Aside0.mk hv
        clear hv
        go_wp2_with (go_at_fn g; refine (HQ.out _ (rd_T42 l i) ?hb_).mono ?_; (case hb_ => exact (by repeat (first | (with_reducible first | exact HW.out | apply below_alloc | apply pw_below_drewN | apply below_drew1) | exact HW.out))); rintro e w' ⟨he, hb⟩; rw [HV.out] at he; subst he)
        go_ret
        refine ⟨?_, below_step (by repeat (first | (with_reducible first | exact HW.out | apply below_alloc | apply pw_below_drewN | apply below_drew1) | exact HW.out)) hb⟩
        rw [idxIShade_hit q l i.toNat (by omega) (fun j hj => HA.out j (by omega)) (by rw [Int.toNat_of_nonneg h0]; exact HV.out), Int.toNat_of_nonneg h0]
        rfl
      | false =>
        have HV := Aside0.mk hv
        clear hv
        go_wp2_with (go_at_fn g; refine (HQ.out _ (rd_T42 l i) ?hb_).mono ?_; (case hb_ => exact (by repeat (first | (with_reducible first | exact HW.out | apply below_alloc | apply pw_below_drewN | apply below_drew1) | exact HW.out))); rintro e w' ⟨he, hb⟩; rw [HV.out] at he; subst he; have HW2 := Aside0.mk (below_step (by repeat (first | (with_reducible first | exact HW.out | apply below_alloc | apply pw_below_drewN | apply below_drew1) | exact HW.out)) hb); clear hb HW; have HW := HW2; clear HW2)
        go_roundg (l.length - (i + 1).toNat)
        case measure => omega
        case rel =>
          refine ⟨i + 1, by omega, by omega, by omega, rfl, ⟨by repeat (first | (with_reducible first | exact HW.out | apply below_alloc | apply pw_below_drewN | apply below_drew1) | exact HW.out)⟩, ⟨fun j hj => ?_⟩⟩
          by_cases e : (j : Int) = i
          · rw [e]; exact HV.out
          · exact HA.out j (by omega)
    · have hi : i = l.length := by omega
      have HI := Aside0.mk hi
      clear hi
      go_wp2
      go_ret
      refine ⟨?_, by repeat (first | (with_reducible first | exact HW.out | apply below_alloc | apply pw_below_drewN | apply below_drew1) | exact HW.out)⟩
      rw [idxIShade_miss q l (fun j hj => HA.out j (by rw [HI.out]; omega))]
      rfl

theorem containsShade (q : S42 → Bool) (g : Nat) (lb : Value) (eg : ∀ args w, (callFunc g args).run Tryd.prog w = .ok (.enter g args) w) (w : World) (hq : ∀ W (x : S42), Below w.heap.size w W → Calls Tryd.prog g #[.agg #[.int .i64 x.f0, .string x.f1, .int .i64 x.f2, .int .i64 x.f3, .int .i64 x.f4], lb] W fun e w' => e = .returned (.bool (q x)) ∧ Below W.heap.size W w')
    (A : Option Addr) (c : Nat) (l : List S42) (hr : Kd.C k42 w A l.length l) (hc : l.length ≤ c) :
    Calls Tryd.prog 43 #[.slice A l.length c, .func (.func g) #[] #[lb]] w fun e w' => e = .returned (.bool (l.any q)) ∧ Below w.heap.size w w' := by
  have HC := indexShade q g lb eg w hq A c l hr hc
  have hi := idxIShade_any q l
  generalize l.any q = b at hi ⊢
  generalize idxIShade q l = i at HC hi
  clear hr hc hq eg
  go_enter Tryd.func43, Tryd.ntmps43
  go_wp2_with (go_at_call 54; refine HC.mono ?_; rintro e w' ⟨rfl, hb⟩)
  go_ret
  exact ⟨by rw [← hi]; rfl, hb⟩

theorem areAllShade (f : Nat) (p : S42 → Bool) (ef : ∀ args w, (callFunc f args).run Tryd.prog w = .ok (.enter f args) w) (hp : ∀ (x : S42) (W : World), Calls Tryd.prog f #[.agg #[.int .i64 x.f0, .string x.f1, .int .i64 x.f2, .int .i64 x.f3, .int .i64 x.f4]] W fun e w' => e = .returned (.bool (p x)) ∧ Below W.heap.size W w')
    (A : Option Addr) (c : Nat) (l : List S42) (w : World) (hr : Kd.C k42 w A l.length l) (hc : l.length ≤ c) :
    Calls Tryd.prog 39 #[.slice A l.length c, .func (.func f) #[] #[]] w fun e w' => e = .returned (.bool (l.all p)) ∧ Below w.heap.size w w' := by
  have e78 : ∀ args w, (callFunc 50 args).run Tryd.prog w = .ok (.enter 50 args) w := enters_of Tryd.func50 (by kernel_rfl) rfl
  have HC := containsShade (fun x => !p x) 50 (.pointer (some ⟨w.heap.size, 0, none⟩)) e78 (w.alloc (.cells #[.func (.func f) #[] #[]] 54)) (fun W x hW => by
    exact notTShade f p ef hp x _ _ ((hW.cell (p := ⟨w.heap.size, 0, none⟩) (by simp)).trans (by simp))) A c l (Kd.C_alloc hr _) hc
  have hb : (!(l.any fun x => !p x)) = l.all p := by rw [List.all_eq_not_any_not]
  rw [← hb]
  generalize (l.any fun x => !p x) = b at HC ⊢
  clear hr hc hb
  go_enter Tryd.func39, Tryd.ntmps39
  go_wp2_with (go_at_call 43; refine HC.mono ?_; rintro e w' ⟨rfl, hb⟩)
  go_ret
  exact ⟨rfl, ((Below.refl _ w).alloc (Nat.le_refl _) _).trans (hb.mono (by simp))⟩
theorem impl_in_some (a b c : Int) : impl_in.f a b c = some (decide (b ≤ a) && decide (a ≤ c)) := by
  unfold impl_in.f
  by_cases h : a ≥ b
  · rw [if_pos h, decide_eq_true (show b ≤ a from h)]; rfl
  · rw [if_neg h, decide_eq_false (show ¬ b ≤ a from h)]; rfl
set_option maxHeartbeats 4000000 in
theorem impl_IsShade_total (x : S42) : ∃ b, impl_IsShade.f x.f0 x.f1 x.f2 x.f3 x.f4 = some b := by
  simp only [impl_IsShade.f, impl_isId.f, impl_isWord.f, impl_isStep.f, impl_in_some, Option.bind_some]
  repeat' (first | exact ⟨_, rfl⟩ | split)
def P_impl_IsShade (x : S42) : Bool := (impl_IsShade.f x.f0 x.f1 x.f2 x.f3 x.f4).getD false
theorem P_impl_IsShade_eq (x : S42) : impl_IsShade.f x.f0 x.f1 x.f2 x.f3 x.f4 = some (P_impl_IsShade x) := by
  unfold P_impl_IsShade
  have h : ∃ b, impl_IsShade.f x.f0 x.f1 x.f2 x.f3 x.f4 = some b := impl_IsShade_total x
  obtain ⟨b, hb⟩ := h
  rw [hb]; rfl
theorem P_impl_IsShade_pred (x : S42) (W : World) : Calls Tryd.prog 40 #[.agg #[.int .i64 x.f0, .string x.f1, .int .i64 x.f2, .int .i64 x.f3, .int .i64 x.f4]] W fun e w' => e = .returned (.bool (P_impl_IsShade x)) ∧ Below W.heap.size W w' := impl_IsShade.calls x.f0 x.f1 x.f2 x.f3 x.f4 _ W (P_impl_IsShade_eq x)
def impl_areAll_impl_Shade.f (l0 : List (S42)) (a1 : Tok) : Option (Bool) := if a1.n = 40 then some (l0.all P_impl_IsShade) else none
theorem impl_areAll_impl_Shade.calls (A0 : Option Addr) (c0 : Nat) (l0 : List (S42)) (a1 : Tok) (r : Bool) (w : World) (hr0 : Kd.C k42 w A0 l0.length l0) (hc0 : l0.length ≤ c0) (h : impl_areAll_impl_Shade.f l0 a1 = some r) :
    Calls Tryd.prog 39 #[.slice A0 l0.length c0, .func (.func a1.n) #[] #[]] w fun e w' => e = .returned (.bool r) ∧ Below w.heap.size w w' := by
  obtain ⟨n_⟩ := a1
  unfold impl_areAll_impl_Shade.f at h
  dsimp only at h ⊢
  by_cases c_ : n_ = 40
  · subst c_
    rw [if_pos rfl] at h
    obtain rfl := Option.some.inj h
    exact areAllShade 40 P_impl_IsShade (enters_of Tryd.func40 (by kernel_rfl) rfl) P_impl_IsShade_pred A0 c0 l0 w hr0 hc0
  rw [if_neg c_] at h
  exact absurd h (by simp)


end Go.Proofs.YtggikmajopmchaaDoor.G
