-- Printed by a program of this session (wip/tools/gp.sh); Lean checks it.
import Derived.Test.YthbjgejcifchnaaDoorGx0
namespace Go.Proofs.YthbjgejcifchnaaDoor.G
open Go.RowKit Go.Proofs.YthbjgejcifchnaaDoorW.PrintWords Go.Proofs.YthbjgejcifchnaaDoorW.PrintLast Go.Proofs.YthbjgejcifchnaaDoorW.PrintMore
attribute [local go_sem] isSome_setCell_ max2_int min2_int max_two min_two max_three min_three max_four min_four   -- for this text's walks alone
set_option linter.unusedVariables false
set_option linter.unusedSimpArgs false
-- zlits

/-! ### impl_in: function 27 -/
def impl_in.f (a0 : Int) (a1 : Int) (a2 : Int) : Option (Bool) := if a0 ≥ a1 then (some (decide (a0 ≤ a2))) else (some false)
set_option maxHeartbeats 8000000 in
set_option maxRecDepth 100000 in
theorem impl_in.calls (a0 : Int) (a1 : Int) (a2 : Int) (r : Bool) (w : World) (h : impl_in.f a0 a1 a2 = some r) :
    Calls Tryd.prog 27 #[.int .i64 a0, .int .i64 a1, .int .i64 a2] w fun e w' => e = .returned (.bool r) ∧ Drawn0 w w' := by
  have H : (if a0 ≥ a1 then (some (decide (a0 ≤ a2))) else (some false)) = some r := h
  clear h
  by_cases c4 : a0 ≥ a1
  · rw [if_pos c4] at H
    have c4b0 : decide (a1 ≤ a0) = true := decide_eq_true c4
    clear c4
    obtain rfl := Option.some.inj H
    go_enter Tryd.func27, Tryd.ntmps27
    go_wp2
    go_ret
    exact ⟨by first | rfl | (simp; done) | (simp [*]; done), by repeat (first | exact Drawn0.refl _ | apply Drawn0.step)⟩
  · rw [if_neg c4] at H
    have c4b0 : decide (a1 ≤ a0) = false := decide_eq_false c4
    clear c4
    obtain rfl := Option.some.inj H
    go_enter Tryd.func27, Tryd.ntmps27
    go_wp2
    go_ret
    exact ⟨by first | rfl | (simp; done) | (simp [*]; done), by repeat (first | exact Drawn0.refl _ | apply Drawn0.step)⟩

/-! ### impl_isSide: function 20 -/
def impl_isSide.f (a0 : Int) : Option (Bool) := (impl_in.f a0 1 8).bind fun t165 => (some t165)
set_option maxHeartbeats 8000000 in
set_option maxRecDepth 100000 in
theorem impl_isSide.calls (a0 : Int) (r : Bool) (w : World) (h : impl_isSide.f a0 = some r) :
    Calls Tryd.prog 20 #[.int .i64 a0] w fun e w' => e = .returned (.bool r) ∧ Drawn0 w w' := by
  have H : ((impl_in.f a0 1 8).bind fun t165 => (some t165)) = some r := h
  clear h
  replace H := Option.bind_eq_some_iff.mp H
  obtain ⟨t165, A20, H⟩ := H
  replace H : (some t165) = some r := H
  have A2 := Aside0.mk A20
  clear A20
  obtain rfl := Option.some.inj H
  go_enter Tryd.func20, Tryd.ntmps20
  go_wp2_with (first | ((with_reducible refine gate_callee (f := 27) rfl ?_); refine goesL_ (some 4) rfl rfl Tryd.func27 (by kernel_rfl) rfl #[.int .i64 a0, .int .i64 1, .int .i64 8] rfl (by (try simp only [List.map_toArray, List.map_cons, List.map_nil]); first | done | rfl | (simp only [List.length_drop, List.length_take]; rfl)) ?_; (with_reducible refine (impl_in.calls a0 1 8 t165 _ A2.out).mono ?_); rintro e w' ⟨rfl, ⟨nd, rfl⟩⟩; refine ⟨_, rfl, ?_⟩))
  go_ret
  exact ⟨by first | rfl | (simp; done) | (simp [*]; done), by repeat (first | exact Drawn0.refl _ | apply Drawn0.step)⟩

-- NOT PRINTED: function 34 (slices_IndexFunc_int_int)

-- NOT PRINTED: function 28 (slices_ContainsFunc_int_int)

/-! ### impl_areAll_int: function 21 -/
/-- A predicate on whole numbers: it only reads. -/
def PredInt (f : Nat) (p : Int → Bool) : Prop := ∀ (x : Int) (W : World), Calls Tryd.prog f #[.int .i64 x] W fun e w' => e = .returned (.bool (p x)) ∧ Drawn0 W w'

theorem notInt (f : Nat) (p : Int → Bool) (ef : ∀ args w, (callFunc f args).run Tryd.prog w = .ok (.enter f args) w) (hp : PredInt f p) (x : Int) (B : Nat) (W : World) (hB : W.cell? ⟨B, 0, none⟩ = some (.func (.func f) #[] #[])) :
    Calls Tryd.prog 29 #[.int .i64 x, .pointer (some ⟨B, 0, none⟩)] W fun e w' => e = .returned (.bool (!p x)) ∧ Drawn0 W w' := by
  go_enter Tryd.func29, Tryd.ntmps29
  go_wp2_with (go_at_fn f; refine (hp x _).mono ?_; rintro e w' ⟨rfl, ⟨nd, rfl⟩⟩)
  go_ret
  exact ⟨rfl, by repeat (first | exact Drawn0.refl _ | apply Drawn0.step)⟩

set_option maxHeartbeats 1000000 in
theorem indexInt (q : Int → Bool) (g : Nat) (lb : Value) (eg : ∀ args w, (callFunc g args).run Tryd.prog w = .ok (.enter g args) w) (w : World) (hq : ∀ W x, Drawn0 w W → Calls Tryd.prog g #[.int .i64 x, lb] W fun e w' => e = .returned (.bool (q x)) ∧ Drawn0 W w')
    (A : Option Addr) (c : Nat) (l : List Int) (hr : Kd.C (Kd.int .i64) w A l.length l) (hc : l.length ≤ c) :
    Calls Tryd.prog 34 #[.slice A l.length c, .func (.func g) #[] #[lb]] w fun e w' => (∃ i : Int, e = .returned (.int .i64 i) ∧ decide (0 ≤ i) = l.any q) ∧ Drawn0 w w' := by
  have hmax := Kd.C_max hr
  have HR := Aside0.mk hr
  have HQ := Aside0.mk hq
  clear hr hq
  go_enter Tryd.func34, Tryd.ntmps34
  go_wp2
  go_loopg [5, 8] l.length (fun gg _ s8 wr => ∃ i : Int, 0 ≤ i ∧ i ≤ l.length ∧ (l.length : Int) - i ≤ gg ∧ s8 = .int .i64 i ∧ Aside0 (Drawn0 w wr) ∧ Aside0 ((l.take i.toNat).any q = false))
  case atStart => exact ⟨0, by omega, by omega, by omega, rfl, ⟨Drawn0.refl _⟩, ⟨by simp⟩⟩
  case round =>
    obtain ⟨i, h0, h1, hg, rfl, HW, HA⟩ := hrel
    by_cases hlt : i < (l.length : Int)
    · obtain ⟨ad, e, hx⟩ := Kd.at_int HR.out i h0 hlt
      cases e
      obtain ⟨nd, rfl⟩ := HW.out
      have hcall := HQ.out (w.drewN nd) (rd l i) HW.out
      have hany : (l.take (i + 1).toNat).any q = ((l.take i.toNat).any q || q (rd l i)) := by
        have e : (i + 1).toNat = i.toNat + 1 := by omega
        have hl : i.toNat < l.length := by omega
        rw [e, List.take_succ_eq_append_getElem hl, List.any_append]
        simp [rd, List.getD_eq_getElem?_getD, hl]
      have HY := Aside0.mk hany
      clear hany
      cases hv : q (rd l i) with
      | true =>
        have HV := Aside0.mk hv
        rw [hv] at hcall
        clear hv
        go_wp2_with (go_at_fn g; refine hcall.mono ?_; rintro e w' ⟨rfl, ⟨nd2, rfl⟩⟩)
        go_ret
        refine ⟨⟨i, rfl, ?_⟩, by repeat (first | exact HW.out | exact Drawn0.refl _ | apply Drawn0.step)⟩
        have h2 : l.any q = true := by
          rw [← List.take_append_drop (i + 1).toNat l, List.any_append, HY.out, HV.out]
          simp
        rw [h2]
        exact decide_eq_true h0
      | false =>
        have HV := Aside0.mk hv
        rw [hv] at hcall
        clear hv
        go_wp2_with (go_at_fn g; refine hcall.mono ?_; rintro e w' ⟨rfl, ⟨nd2, rfl⟩⟩)
        go_roundg (l.length - (i + 1).toNat)
        case measure => omega
        case rel => exact ⟨i + 1, by omega, by omega, by omega, rfl, ⟨by repeat (first | exact HW.out | exact Drawn0.refl _ | apply Drawn0.step)⟩, ⟨by rw [HY.out, HA.out, HV.out]; rfl⟩⟩
    · have hi : i = l.length := by omega
      have HI := Aside0.mk hi
      clear hi
      go_wp2
      go_ret
      refine ⟨⟨-1, rfl, ?_⟩, by repeat (first | exact HW.out | exact Drawn0.refl _ | apply Drawn0.step)⟩
      have h2 := HA.out
      rw [HI.out] at h2
      simp only [Int.toNat_natCast, List.take_length] at h2
      rw [h2]
      rfl

theorem containsInt (q : Int → Bool) (g : Nat) (lb : Value) (eg : ∀ args w, (callFunc g args).run Tryd.prog w = .ok (.enter g args) w) (w : World) (hq : ∀ W x, Drawn0 w W → Calls Tryd.prog g #[.int .i64 x, lb] W fun e w' => e = .returned (.bool (q x)) ∧ Drawn0 W w')
    (A : Option Addr) (c : Nat) (l : List Int) (hr : Kd.C (Kd.int .i64) w A l.length l) (hc : l.length ≤ c) :
    Calls Tryd.prog 28 #[.slice A l.length c, .func (.func g) #[] #[lb]] w fun e w' => e = .returned (.bool (l.any q)) ∧ Drawn0 w w' := by
  have HC := indexInt q g lb eg w hq A c l hr hc
  generalize l.any q = b at HC ⊢
  clear hr hc hq eg
  go_enter Tryd.func28, Tryd.ntmps28
  go_wp2_with (go_at_call 34; refine HC.mono ?_; rintro e w' ⟨⟨i, rfl, hi⟩, ⟨nd, rfl⟩⟩)
  go_ret
  exact ⟨by rw [← hi]; rfl, by repeat (first | exact Drawn0.refl _ | apply Drawn0.step)⟩

theorem areAllInt (f : Nat) (p : Int → Bool) (ef : ∀ args w, (callFunc f args).run Tryd.prog w = .ok (.enter f args) w) (hp : PredInt f p)
    (A : Option Addr) (c : Nat) (l : List Int) (w : World) (hr : Kd.C (Kd.int .i64) w A l.length l) (hc : l.length ≤ c) :
    Calls Tryd.prog 21 #[.slice A l.length c, .func (.func f) #[] #[]] w fun e w' => e = .returned (.bool (l.all p)) ∧ Below w.heap.size w w' := by
  have e78 : ∀ args w, (callFunc 29 args).run Tryd.prog w = .ok (.enter 29 args) w := enters_of Tryd.func29 (by kernel_rfl) rfl
  have HC := containsInt (fun x => !p x) 29 (.pointer (some ⟨w.heap.size, 0, none⟩)) e78 (w.alloc (.cells #[.func (.func f) #[] #[]] 37)) (fun W x hW => by
    obtain ⟨nd, rfl⟩ := hW
    exact notInt f p ef hp x _ _ (by simp)) A c l (Kd.C_alloc hr _) hc
  have hb : (!(l.any fun x => !p x)) = l.all p := by rw [List.all_eq_not_any_not]
  rw [← hb]
  generalize (l.any fun x => !p x) = b at HC ⊢
  clear hr hc hb
  go_enter Tryd.func21, Tryd.ntmps21
  go_wp2_with (go_at_call 28; refine HC.mono ?_; rintro e w' ⟨rfl, ⟨nd, rfl⟩⟩)
  go_ret
  exact ⟨rfl, by repeat (first | exact Below.refl _ _ | apply below_alloc | apply pw_below_drewN | apply below_drew1)⟩


/-! ### impl_isColor: function 22 -/
def impl_isColor.f (a0 : Int) : Option (Bool) := (impl_in.f a0 0 5).bind fun t166 => (some t166)
set_option maxHeartbeats 8000000 in
set_option maxRecDepth 100000 in
theorem impl_isColor.calls (a0 : Int) (r : Bool) (w : World) (h : impl_isColor.f a0 = some r) :
    Calls Tryd.prog 22 #[.int .i64 a0] w fun e w' => e = .returned (.bool r) ∧ Drawn0 w w' := by
  have H : ((impl_in.f a0 0 5).bind fun t166 => (some t166)) = some r := h
  clear h
  replace H := Option.bind_eq_some_iff.mp H
  obtain ⟨t166, A20, H⟩ := H
  replace H : (some t166) = some r := H
  have A2 := Aside0.mk A20
  clear A20
  obtain rfl := Option.some.inj H
  go_enter Tryd.func22, Tryd.ntmps22
  go_wp2_with (first | ((with_reducible refine gate_callee (f := 27) rfl ?_); refine goesL_ (some 4) rfl rfl Tryd.func27 (by kernel_rfl) rfl #[.int .i64 a0, .int .i64 0, .int .i64 5] rfl (by (try simp only [List.map_toArray, List.map_cons, List.map_nil]); first | done | rfl | (simp only [List.length_drop, List.length_take]; rfl)) ?_; (with_reducible refine (impl_in.calls a0 0 5 t166 _ A2.out).mono ?_); rintro e w' ⟨rfl, ⟨nd, rfl⟩⟩; refine ⟨_, rfl, ?_⟩))
  go_ret
  exact ⟨by first | rfl | (simp; done) | (simp [*]; done), by repeat (first | exact Drawn0.refl _ | apply Drawn0.step)⟩

/-! ### impl_IsChart: function 13 -/
def isColorB (x : Int) : Bool := decide (0 ≤ x) && decide (x ≤ 5)
theorem isColor_pred : PredInt 22 isColorB := fun x W => by
  unfold isColorB
  by_cases h1 : 0 ≤ x
  · by_cases h2 : x ≤ 5
    · rw [decide_eq_true h1, decide_eq_true h2]
      go_enter Tryd.func22, Tryd.ntmps22
      go_wp2
      go_ret
      exact ⟨rfl, Drawn0.refl _⟩
    · rw [decide_eq_true h1, decide_eq_false h2]
      go_enter Tryd.func22, Tryd.ntmps22
      go_wp2
      go_ret
      exact ⟨rfl, Drawn0.refl _⟩
  · rw [decide_eq_false h1]
    go_enter Tryd.func22, Tryd.ntmps22
    go_wp2
    go_ret
    exact ⟨rfl, Drawn0.refl _⟩
theorem enters48 : ∀ args w, (callFunc 22 args).run Tryd.prog w = .ok (.enter 22 args) w := enters_of Tryd.func22 (by kernel_rfl) rfl
theorem isColor_yes (x : Int) (W : World) (h1 : 0 ≤ x) (h2 : x ≤ 5) : Calls Tryd.prog 22 #[.int .i64 x] W fun e w' => e = .returned (.bool true) ∧ W = w' := by
  go_enter Tryd.func22, Tryd.ntmps22
  go_wp2
  go_ret
  exact ⟨rfl, rfl⟩
theorem isSide_yes (x : Int) (W : World) (h1 : 1 ≤ x) (h2 : x ≤ 8) : Calls Tryd.prog 20 #[.int .i64 x] W fun e w' => e = .returned (.bool true) ∧ W = w' := by
  go_enter Tryd.func20, Tryd.ntmps20
  go_wp2
  go_ret
  exact ⟨rfl, rfl⟩
def impl_IsChart.f (a0_0 : Int) (a0_1 : Int) (l0_2 : List Int) : Option (Bool) :=
  some (if 1 ≤ a0_0 ∧ a0_0 ≤ 8 then (if 1 ≤ a0_1 ∧ a0_1 ≤ 8 then (if (l0_2.length : Int) = wrap64 (a0_0 * a0_1) then l0_2.all isColorB else false) else false) else false)
set_option maxHeartbeats 2000000 in
theorem impl_IsChart.calls (a0_0 : Int) (a0_1 : Int) (A0_2 : Option Addr) (c0_2 : Nat) (l0_2 : List Int) (r : Bool) (w : World) (hr0_2 : Kd.C (Kd.int .i64) w A0_2 l0_2.length l0_2) (hc0_2 : l0_2.length ≤ c0_2) (h : impl_IsChart.f a0_0 a0_1 l0_2 = some r) :
    Calls Tryd.prog 13 #[.agg #[.int .i64 a0_0, .int .i64 a0_1, .slice A0_2 l0_2.length c0_2]] w fun e w' => e = .returned (.bool r) ∧ Below w.heap.size w w' := by
  have hu24 := Tryd.underlying24
  have HA := areAllInt 22 isColorB enters48 isColor_pred A0_2 c0_2 l0_2 (w.alloc (.cells #[.int .i64 a0_0, .int .i64 a0_1, .slice A0_2 l0_2.length c0_2] 24)) (Kd.C_alloc hr0_2 _) hc0_2
  have hmax := Kd.C_max hr0_2
  clear hr0_2
  unfold impl_IsChart.f at h
  obtain rfl := Option.some.inj h
  clear h
  generalize l0_2.all isColorB = b at HA ⊢
  by_cases h1 : 1 ≤ a0_0 ∧ a0_0 ≤ 8
  · rw [if_pos h1]
    obtain ⟨h1, h2⟩ := h1
    by_cases h3 : 1 ≤ a0_1 ∧ a0_1 ≤ 8
    · rw [if_pos h3]
      obtain ⟨h3, h4⟩ := h3
      by_cases h5 : (l0_2.length : Int) = wrap64 (a0_0 * a0_1)
      · rw [if_pos h5]
        have h5b : ((l0_2.length : Int) == wrap64 (a0_0 * a0_1)) = true := beq_iff_eq.mpr h5
        clear h5
        go_enter Tryd.func13, Tryd.ntmps13
        go_wp2_with (first | (go_at_call 20; refine (isSide_yes _ _ (by omega) (by omega)).mono ?_; rintro e w' ⟨rfl, rfl⟩) | (go_at_call 21; refine HA.mono ?_; rintro e w' ⟨rfl, hb⟩))
        go_ret
        exact ⟨rfl, ((Below.refl _ w).alloc (Nat.le_refl _) _).trans (hb.mono (by simp))⟩
      · rw [if_neg h5]
        have h5b : ((l0_2.length : Int) == wrap64 (a0_0 * a0_1)) = false := beq_eq_false_iff_ne.mpr h5
        clear h5
        go_enter Tryd.func13, Tryd.ntmps13
        go_wp2
        go_ret
        exact ⟨rfl, ((Below.refl _ w).alloc (Nat.le_refl _) _)⟩
    · rw [if_neg h3]
      have h3' : a0_1 < 1 ∨ 8 < a0_1 := by omega
      clear h3
      rcases h3' with h3 | h3
      all_goals
        go_enter Tryd.func13, Tryd.ntmps13
        go_wp2
        go_ret
        exact ⟨rfl, ((Below.refl _ w).alloc (Nat.le_refl _) _)⟩
  · rw [if_neg h1]
    have h1' : a0_0 < 1 ∨ 8 < a0_0 := by omega
    clear h1
    rcases h1' with h1 | h1
    all_goals
      go_enter Tryd.func13, Tryd.ntmps13
      go_wp2
      go_ret
      exact ⟨rfl, ((Below.refl _ w).alloc (Nat.le_refl _) _)⟩


end Go.Proofs.YthbjgejcifchnaaDoor.G
