-- Printed by a program of this session (wip/tools/gp.sh); Lean checks it.
import Derived.Test.YtpbipijjihbjhaaGx0
namespace Go.Proofs.Ytpbipijjihbjhaa.G
open Go.RowKit Go.Proofs.YtpbipijjihbjhaaW.PrintWords Go.Proofs.YtpbipijjihbjhaaW.PrintLast Go.Proofs.YtpbipijjihbjhaaW.PrintMore
attribute [local go_sem] isSome_setCell_ max2_int min2_int max_two min_two max_three min_three max_four min_four   -- for this text's walks alone
set_option linter.unusedVariables false
set_option linter.unusedSimpArgs false

def mxA (a : Int) : Int := mx a (wrap64 (-a))
/-- Whether a place q lies apart from a place p. -/
def apartV (p0 p1 mw mh : Int) (q : S44) : Bool := if mxA (wrap64 (p0 - q.f0)) ≥ mh then true else decide (mxA (wrap64 (p1 - q.f1)) ≥ mw)
theorem neg_wrapA_ (x : Int) : IntKind.i64.wrap (-x) = wrap64 (-x) := by
  unfold wrap64
  exact IntKind.wrap_i64 (-x)
attribute [local go_sem] neg_wrapA_
theorem absQ (a : Int) (w : World) : Calls Try.prog 27 #[.int .i64 a] w fun e w' => e = .returned (.int .i64 (mxA a)) ∧ Drawn0 w w' := by
  unfold mxA
  obtain ⟨ji2, hji2⟩ : ∃ j_ : Int, (mx a (wrap64 (-a))) = j_ := ⟨_, rfl⟩
  rw [hji2]
  have hji2_ : (if a < (wrap64 (-a)) then (wrap64 (-a)) else a) = ji2 := hji2
  go_enter Try.func27, Try.ntmps27
  go_wp2
  go_ret
  exact ⟨by first | rfl | (simp only [← hji2]; first | rfl | (simp; done)) | (simp [*]; done), by repeat (first | exact Drawn0.refl _ | apply Drawn0.step)⟩
set_option maxHeartbeats 4000000 in
theorem apartLit (p0 p1 mw mh : Int) (v : Value) (B C : Nat) (q : S44) (W : World) (hB : W.heap[B]? = some (.cells #[.int .i64 p0, .int .i64 p1] 44 (0, 0))) (hC : W.heap[C]? = some (.cells #[.int .i64 mw, .int .i64 mh, v] 29 (0, 0))) :
    Calls Try.prog 26 #[.agg #[.int .i64 q.f0, .int .i64 q.f1], .pointer (some ⟨B, 0, none⟩), .pointer (some ⟨C, 0, none⟩)] W fun e w' => e = .returned (.bool (apartV p0 p1 mw mh q)) ∧ Below W.heap.size W w' := by
  have hu44 := Try.underlying44
  have hu29 := Try.underlying29
  have k0 : W.cell? ⟨B, 0, none⟩ = some (.int .i64 p0) := (blk_cell hB 0).trans rfl
  have k1 : W.cell? ⟨B, 1, none⟩ = some (.int .i64 p1) := (blk_cell hB 1).trans rfl
  have m0 : W.cell? ⟨C, 0, none⟩ = some (.int .i64 mw) := (blk_cell hC 0).trans rfl
  have m1 : W.cell? ⟨C, 1, none⟩ = some (.int .i64 mh) := (blk_cell hC 1).trans rfl
  have hlt := World.block_lt_of_cell? W _ k0
  have hlt2 := World.block_lt_of_cell? W _ m0
  have HAB := Aside0.mk absQ
  clear hB hC
  unfold apartV
  by_cases c : mxA (wrap64 (p0 - q.f0)) ≥ mh
  · rw [if_pos c]
    have cb : decide (mh ≤ mxA (wrap64 (p0 - q.f0))) = true := decide_eq_true c
    clear c
    go_enter Try.func26, Try.ntmps26
    go_wp2
    repeat (go_quiet (first | (go_at_call 27; refine (HAB.out _ _).mono ?_; rintro e w' ⟨rfl, ⟨nd, rfl⟩⟩; (try first | exact ⟨rfl, _, World.drewN_drewN _ _ _⟩ | exact ⟨rfl, _, Eq.trans (World.drewN_drewN _ _ _) (congrArg (World.drewN _) (Nat.add_assoc _ _ _))⟩))); try go_wp2)
    go_ret
    exact ⟨by first | rfl | (simp; done), by repeat (first | exact Below.refl _ _ | apply below_alloc | apply pw_below_drewN | apply below_drew1)⟩
  · rw [if_neg c]
    have cb : decide (mh ≤ mxA (wrap64 (p0 - q.f0))) = false := decide_eq_false c
    clear c
    go_enter Try.func26, Try.ntmps26
    go_wp2
    repeat (go_quiet (first | (go_at_call 27; refine (HAB.out _ _).mono ?_; rintro e w' ⟨rfl, ⟨nd, rfl⟩⟩; (try first | exact ⟨rfl, _, World.drewN_drewN _ _ _⟩ | exact ⟨rfl, _, Eq.trans (World.drewN_drewN _ _ _) (congrArg (World.drewN _) (Nat.add_assoc _ _ _))⟩))); try go_wp2)
    go_ret
    exact ⟨by first | rfl | (simp; done), by repeat (first | exact Below.refl _ _ | apply below_alloc | apply pw_below_drewN | apply below_drew1)⟩
/-- The first place of a list at which a test holds, or -1. -/
def idxIA2 (q : S44 → Bool) : List S44 → Int
  | [] => -1
  | x :: xs => if q x = true then 0 else if idxIA2 q xs < 0 then -1 else idxIA2 q xs + 1
theorem idxIA2_miss (q : S44 → Bool) : ∀ l : List S44, (∀ j : Nat, j < l.length → q (rd_T44 l j) = false) → idxIA2 q l = -1
  | [], _ => rfl
  | x :: xs, h => by
    have h0 : q x = false := h 0 (by simp)
    have h1 := idxIA2_miss q xs (fun j hj => by have := h (j + 1) (by simpa using hj); simpa [rd_T44] using this)
    simp [idxIA2, h0, h1]
theorem idxIA2_hit (q : S44 → Bool) : ∀ (l : List S44) (i : Nat), i < l.length → (∀ j : Nat, j < i → q (rd_T44 l j) = false) → q (rd_T44 l i) = true → idxIA2 q l = i
  | [], i, h, _, _ => by simp at h
  | x :: xs, 0, _, _, h => by
    have h0 : q x = true := h
    simp [idxIA2, h0]
  | x :: xs, i + 1, hl, hm, h => by
    have h0 : q x = false := hm 0 (by omega)
    have h1 := idxIA2_hit q xs i (by simpa using hl) (fun j hj => by have := hm (j + 1) (by omega); simpa [rd_T44] using this) (by simpa [rd_T44] using h)
    have h2 : ¬ ((i : Int) < 0) := by omega
    simp [idxIA2, h0, h1, h2]
theorem idxIA2_any (q : S44 → Bool) : ∀ l : List S44, decide (0 ≤ idxIA2 q l) = l.any q
  | [] => rfl
  | x :: xs => by
    have ih := idxIA2_any q xs
    cases h0 : q x with
    | true => simp [idxIA2, h0]
    | false =>
      simp only [idxIA2, h0, List.any_cons, Bool.false_or, ← ih]
      by_cases c : idxIA2 q xs < 0
      · simp [c]
      · simp [c]; omega
theorem notTA2 (f : Nat) (b1 b2 : Value) (p : S44 → Bool) (ef : ∀ args w, (callFunc f args).run Try.prog w = .ok (.enter f args) w) (x : S44) (B : Nat) (W : World) (hp : ∀ V : World, Below W.heap.size W V → Calls Try.prog f #[.agg #[.int .i64 x.f0, .int .i64 x.f1], b1, b2] V fun e w' => e = .returned (.bool (p x)) ∧ Below V.heap.size V w') (hB : W.cell? ⟨B, 0, none⟩ = some (.func (.func f) #[] #[b1, b2])) :
    Calls Try.prog 39 #[.agg #[.int .i64 x.f0, .int .i64 x.f1], .pointer (some ⟨B, 0, none⟩)] W fun e w' => e = .returned (.bool (!p x)) ∧ Below W.heap.size W w' := by
  have hu_ := Try.underlying44
  have hlt := World.block_lt_of_cell? W _ hB
  go_enter Try.func39, Try.ntmps39
  go_wp2_with (go_at_fn f; refine (hp _ ?hb_).mono ?_; (case hb_ => exact (by repeat (first | exact Below.refl _ _ | apply below_alloc | apply pw_below_drewN | apply below_drew1))); rintro e w' ⟨rfl, hb⟩)
  go_ret
  exact ⟨rfl, below_step (by repeat (first | exact Below.refl _ _ | apply below_alloc | apply pw_below_drewN | apply below_drew1)) hb⟩

set_option maxHeartbeats 2000000 in
theorem indexA2 (q : S44 → Bool) (g : Nat) (lb : Value) (eg : ∀ args w, (callFunc g args).run Try.prog w = .ok (.enter g args) w) (w : World) (hq : ∀ W (x : S44), Below w.heap.size w W → Calls Try.prog g #[.agg #[.int .i64 x.f0, .int .i64 x.f1], lb] W fun e w' => e = .returned (.bool (q x)) ∧ Below W.heap.size W w')
    (A : Option Addr) (c : Nat) (l : List S44) (hr : Kd.C k44 w A l.length l) (hc : l.length ≤ c) :
    Calls Try.prog 49 #[.slice A l.length c, .func (.func g) #[] #[lb]] w fun e w' => e = .returned (.int .i64 (idxIA2 q l)) ∧ Below w.heap.size w w' := by
  have hu_ := Try.underlying44
  have hmax := Kd.C_max hr
  have HR := Aside0.mk hr
  have HQ := Aside0.mk hq
  clear hr hq
  go_enter Try.func49, Try.ntmps49
  go_wp2
  go_loopg [5, 8] l.length (fun gg _ s8 wr => ∃ i : Int, 0 ≤ i ∧ i ≤ l.length ∧ (l.length : Int) - i ≤ gg ∧ s8 = .int .i64 i ∧ Aside0 (Below w.heap.size w wr) ∧ Aside0 (∀ j : Nat, (j : Int) < i → q (rd_T44 l j) = false))
  case atStart => exact ⟨0, by omega, by omega, by omega, rfl, ⟨by repeat (first | exact Below.refl _ _ | apply below_alloc | apply pw_below_drewN | apply below_drew1)⟩, ⟨fun j hj => by omega⟩⟩
  case round =>
    obtain ⟨i, h0, h1, hg, rfl, HW, HA⟩ := hrel
    by_cases hlt : i < (l.length : Int)
    · obtain ⟨ad, e, hx0, hx1⟩ := at_T44 HR.out i h0 hlt
      cases e
      replace hx0 := (HW.out.cell (World.block_lt_of_cell? w _ hx0)).trans hx0
      replace hx1 := (HW.out.cell (World.block_lt_of_cell? w _ hx1)).trans hx1
      cases hv : q (rd_T44 l i) with
      | true =>
        have HV := Aside0.mk hv
        clear hv
        go_wp2_with (go_at_fn g; refine (HQ.out _ (rd_T44 l i) ?hb_).mono ?_; (case hb_ => exact (by repeat (first | (with_reducible first | exact HW.out | apply below_alloc | apply pw_below_drewN | apply below_drew1) | exact HW.out))); rintro e w' ⟨he, hb⟩; rw [HV.out] at he; subst he)
        go_ret
        refine ⟨?_, below_step (by repeat (first | (with_reducible first | exact HW.out | apply below_alloc | apply pw_below_drewN | apply below_drew1) | exact HW.out)) hb⟩
        rw [idxIA2_hit q l i.toNat (by omega) (fun j hj => HA.out j (by omega)) (by rw [Int.toNat_of_nonneg h0]; exact HV.out), Int.toNat_of_nonneg h0]
        rfl
      | false =>
        have HV := Aside0.mk hv
        clear hv
        go_wp2_with (go_at_fn g; refine (HQ.out _ (rd_T44 l i) ?hb_).mono ?_; (case hb_ => exact (by repeat (first | (with_reducible first | exact HW.out | apply below_alloc | apply pw_below_drewN | apply below_drew1) | exact HW.out))); rintro e w' ⟨he, hb⟩; rw [HV.out] at he; subst he; have HW2 := Aside0.mk (below_step (by repeat (first | (with_reducible first | exact HW.out | apply below_alloc | apply pw_below_drewN | apply below_drew1) | exact HW.out)) hb); clear hb HW; have HW := HW2; clear HW2)
        go_roundg (l.length - (i + 1).toNat)
        case measure => omega
        case rel =>
          refine ⟨i + 1, by omega, by omega, by omega, rfl, ⟨by repeat (first | (with_reducible first | exact HW.out | apply below_alloc | apply pw_below_drewN | apply below_drew1) | exact HW.out)⟩, ⟨fun j hj => ?_⟩⟩
          by_cases e : (j : Int) = i
          · rw [e]; exact HV.out
          · exact HA.out j (by omega)
    · have hi : i = l.length := by omega
      have HI := Aside0.mk hi
      clear hi
      go_wp2
      go_ret
      refine ⟨?_, by repeat (first | (with_reducible first | exact HW.out | apply below_alloc | apply pw_below_drewN | apply below_drew1) | exact HW.out)⟩
      rw [idxIA2_miss q l (fun j hj => HA.out j (by rw [HI.out]; omega))]
      rfl

theorem containsA2 (q : S44 → Bool) (g : Nat) (lb : Value) (eg : ∀ args w, (callFunc g args).run Try.prog w = .ok (.enter g args) w) (w : World) (hq : ∀ W (x : S44), Below w.heap.size w W → Calls Try.prog g #[.agg #[.int .i64 x.f0, .int .i64 x.f1], lb] W fun e w' => e = .returned (.bool (q x)) ∧ Below W.heap.size W w')
    (A : Option Addr) (c : Nat) (l : List S44) (hr : Kd.C k44 w A l.length l) (hc : l.length ≤ c) :
    Calls Try.prog 38 #[.slice A l.length c, .func (.func g) #[] #[lb]] w fun e w' => e = .returned (.bool (l.any q)) ∧ Below w.heap.size w w' := by
  have HC := indexA2 q g lb eg w hq A c l hr hc
  have hi := idxIA2_any q l
  generalize l.any q = b at hi ⊢
  generalize idxIA2 q l = i at HC hi
  clear hr hc hq eg
  go_enter Try.func38, Try.ntmps38
  go_wp2_with (go_at_call 49; refine HC.mono ?_; rintro e w' ⟨rfl, hb⟩)
  go_ret
  exact ⟨by rw [← hi]; rfl, hb⟩

def impl_areAll_2_int.f (l0 : List (S44)) (a1_0 : Int) (a1_1 : Int) (a2_0 : Int) (a2_1 : Int) (l2_2 : List Int) : Option (Bool) := some (l0.all (apartV a1_0 a1_1 a2_0 a2_1))
theorem areAllApart (p0 p1 mw mh : Int) (v : Value) (l2 : List Int) (B C : Nat) (A : Option Addr) (c : Nat) (l : List S44) (r : Bool) (w : World) (hr : Kd.C k44 w A l.length l) (hc : l.length ≤ c) (hB : w.heap[B]? = some (.cells #[.int .i64 p0, .int .i64 p1] 44 (0, 0))) (hC : w.heap[C]? = some (.cells #[.int .i64 mw, .int .i64 mh, v] 29 (0, 0))) (h : impl_areAll_2_int.f l p0 p1 mw mh l2 = some r) :
    Calls Try.prog 28 #[.slice A l.length c, .func (.func 26) #[] #[.pointer (some ⟨B, 0, none⟩), .pointer (some ⟨C, 0, none⟩)]] w fun e w' => e = .returned (.bool r) ∧ Below w.heap.size w w' := by
  obtain rfl := Option.some.inj h
  have e26 : ∀ args w, (callFunc 26 args).run Try.prog w = .ok (.enter 26 args) w := enters_of Try.func26 (by kernel_rfl) rfl
  have e39 : ∀ args w, (callFunc 39 args).run Try.prog w = .ok (.enter 39 args) w := enters_of Try.func39 (by kernel_rfl) rfl
  have HC := containsA2 (fun x => !apartV p0 p1 mw mh x) 39 (.pointer (some ⟨w.heap.size, 0, none⟩)) e39 (w.alloc (.cells #[.func (.func 26) #[] #[.pointer (some ⟨B, 0, none⟩), .pointer (some ⟨C, 0, none⟩)]] 48)) (fun W x hW => by
    have hw : Below w.heap.size w W := ((Below.refl _ w).alloc (Nat.le_refl _) _).trans (hW.mono (by simp))
    exact notTA2 26 _ _ (apartV p0 p1 mw mh) e26 x _ _ (fun V hV => apartLit p0 p1 mw mh v B C x V (blk_below hB (hw.trans (hV.mono (below_size hw)))) (blk_below hC (hw.trans (hV.mono (below_size hw))))) ((hW.cell (p := ⟨w.heap.size, 0, none⟩) (by simp)).trans (by simp))) A c l (Kd.C_alloc hr _) hc
  have hb : (!(l.any fun x => !apartV p0 p1 mw mh x)) = l.all (apartV p0 p1 mw mh) := by rw [List.all_eq_not_any_not]
  rw [← hb]
  generalize (l.any fun x => !apartV p0 p1 mw mh x) = b at HC ⊢
  clear hr hc hb hB hC h
  go_enter Try.func28, Try.ntmps28
  go_wp2_with (go_at_call 38; refine HC.mono ?_; rintro e w' ⟨rfl, hb⟩)
  go_ret
  exact ⟨rfl, ((Below.refl _ w).alloc (Nat.le_refl _) _).trans (hb.mono (by simp))⟩
end Go.Proofs.Ytpbipijjihbjhaa.G
