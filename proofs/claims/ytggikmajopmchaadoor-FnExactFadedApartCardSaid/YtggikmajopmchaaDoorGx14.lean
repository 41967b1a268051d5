-- Printed by a program of this session (wip/tools/gp.sh); Lean checks it.
import Derived.Test.YtggikmajopmchaaDoorGx0
import Derived.Test.YtggikmajopmchaaDoorGx12
import Derived.Test.YtggikmajopmchaaDoorGx13
namespace Go.Proofs.YtggikmajopmchaaDoor.G
open Go.RowKit Go.Proofs.YtggikmajopmchaaDoorW.PrintWords Go.Proofs.YtggikmajopmchaaDoorW.PrintLast Go.Proofs.YtggikmajopmchaaDoorW.PrintMore
attribute [local go_sem] isSome_setCell_ max2_int min2_int max_two min_two max_three min_three max_four min_four   -- for this text's walks alone
set_option linter.unusedVariables false
set_option linter.unusedSimpArgs false

/-! ### impl_IsShadeCard: function 23 -/
theorem nameLit (c : ByteArray) (B : Nat) (W : World) (hB : W.cell? ⟨B, 1, none⟩ = some (.string c)) (x : S42) :
    Calls Tryd.prog 44 #[.agg #[.int .i64 x.f0, .string x.f1, .int .i64 x.f2, .int .i64 x.f3, .int .i64 x.f4], .pointer (some ⟨B, 0, none⟩)] W fun e w' => e = .returned (.bool (x.f1.toList == c.toList)) ∧ Below W.heap.size W w' := by
  have hu_ := Tryd.underlying42
  have hlt := World.block_lt_of_cell? W _ hB
  go_enter Tryd.func44, Tryd.ntmps44
  go_wp2
  go_ret
  exact ⟨rfl, by repeat (first | exact Below.refl _ _ | apply below_alloc | apply pw_below_drewN | apply below_drew1)⟩
theorem containsTake (q : S42 → Bool) (g : Nat) (lb : Value) (eg : ∀ args w, (callFunc g args).run Tryd.prog w = .ok (.enter g args) w) (w : World) (hq : ∀ W (x : S42), Below w.heap.size w W → Calls Tryd.prog g #[.agg #[.int .i64 x.f0, .string x.f1, .int .i64 x.f2, .int .i64 x.f3, .int .i64 x.f4], lb] W fun e w' => e = .returned (.bool (q x)) ∧ Below W.heap.size W w')
    (A : Option Addr) (c n : Nat) (l : List S42) (hr : Kd.C k42 w A l.length l) (hc : l.length ≤ c) (hn : n ≤ l.length) :
    Calls Tryd.prog 43 #[.slice A n c, .func (.func g) #[] #[lb]] w fun e w' => e = .returned (.bool ((l.take n).any q)) ∧ Below w.heap.size w w' := by
  have h := containsShade q g lb eg w hq A c (l.take n) (Kd.C_take hr hn) (by rw [List.length_take]; omega)
  rw [show (l.take n).length = n by rw [List.length_take]; omega] at h
  exact h
/-- Whether the shade at a place bears the name of one ahead of it. -/
def dupAt (l : List S42) (i : Int) : Bool := (l.take i.toNat).any fun t => t.f1.toList == (rd_T42 l i).f1.toList
def namesB (l : List S42) : Bool := (List.range l.length).all fun (j : Nat) => !dupAt l j
theorem namesB_yes (l : List S42) (h : ∀ j : Nat, (j : Int) < l.length → dupAt l j = false) : namesB l = true := by
  unfold namesB
  rw [List.all_eq_true]
  intro j hj
  rw [List.mem_range] at hj
  rw [h j (by omega)]
  rfl
theorem namesB_no (l : List S42) (i : Int) (h0 : 0 ≤ i) (h1 : i < l.length) (h : dupAt l i = true) : namesB l = false := by
  cases hn : namesB l with
  | false => rfl
  | true =>
    unfold namesB at hn
    rw [List.all_eq_true] at hn
    have := hn i.toNat (List.mem_range.mpr (by omega))
    rw [Int.toNat_of_nonneg h0, h] at this
    cases this
def impl_IsShadeCard.f (k : Nat) (l0 : List (S42)) : Option (Bool) := if l0.length > 10 then some false else (impl_areAll_impl_Shade.f l0 FN40).bind fun t => if t = true then (impl_isAscending_impl_Shade.f k l0 FN42).bind fun t2 => if t2 = true then some (namesB l0) else some false else some false
theorem impl_IsShadeCard.mono : ∀ a0 k, LeO (impl_IsShadeCard.f k a0) (impl_IsShadeCard.f (k + 1) a0) := by
  intro a0 k
  unfold impl_IsShadeCard.f
  by_cases c : a0.length > 10
  · rw [if_pos c, if_pos c]
    exact LeO.refl _
  · rw [if_neg c, if_neg c]
    refine LeO.bind (LeO.refl _) (fun t => ?_)
    cases t with
    | false => exact LeO.refl _
    | true => exact LeO.bind (impl_isAscending_impl_Shade.mono _ _ _) (fun _ => LeO.refl _)
set_option maxHeartbeats 2000000 in
theorem impl_IsShadeCard.calls (k : Nat) (A0 : Option Addr) (c0 : Nat) (l0 : List (S42)) (r : Bool) (w : World) (hr0 : Kd.C k42 w A0 l0.length l0) (hc0 : l0.length ≤ c0) (h : impl_IsShadeCard.f k l0 = some r) :
    Calls Tryd.prog 23 #[.slice A0 l0.length c0] w fun e w' => e = .returned (.bool r) ∧ Below w.heap.size w w' := by
  have hu_ := Tryd.underlying42
  have e36 : ∀ args w, (callFunc 44 args).run Tryd.prog w = .ok (.enter 44 args) w := enters_of Tryd.func44 (by kernel_rfl) rfl
  unfold impl_IsShadeCard.f at h
  by_cases c10 : l0.length > 10
  · rw [if_pos c10] at h
    obtain rfl := Option.some.inj h
    have c10a : decide ((l0.length : Int) > 10) = true := decide_eq_true (by omega)
    have c10b : decide (10 < l0.length) = true := decide_eq_true c10
    clear hr0 h
    go_enter Tryd.func23, Tryd.ntmps23
    go_wp2_with fail
    go_ret
    exact ⟨rfl, Below.refl _ _⟩
  rw [if_neg c10] at h
  have c10a : decide ((l0.length : Int) > 10) = false := decide_eq_false (by omega)
  have c10b : decide (10 < l0.length) = false := decide_eq_false c10
  replace h := Option.bind_eq_some_iff.mp h
  obtain ⟨t, ht, h⟩ := h
  have HA := impl_areAll_impl_Shade.calls A0 c0 l0 FN40 t w hr0 hc0 ht
  have HR := Aside0.mk hr0
  clear ht hr0
  cases t with
  | false =>
    rw [if_neg (by simp)] at h
    obtain rfl := Option.some.inj h
    clear h
    go_enter Tryd.func23, Tryd.ntmps23
    go_wp2_with (go_at_call 39; refine HA.mono ?_; rintro e w' ⟨rfl, hb⟩)
    go_ret
    exact ⟨rfl, hb⟩
  | true =>
    rw [if_pos rfl] at h
    replace h := Option.bind_eq_some_iff.mp h
    obtain ⟨t2, ht2, h⟩ := h
    have HC := Aside0.mk (fun (w1 : World) (hb : Below w.heap.size w w1) => impl_isAscending_impl_Shade.calls k A0 c0 l0 FN42 t2 w1 (Kd.C_below HR.out hb) hc0 ht2)
    clear ht2
    cases t2 with
    | false =>
      rw [if_neg (by simp)] at h
      obtain rfl := Option.some.inj h
      clear h
      go_enter Tryd.func23, Tryd.ntmps23
      go_wp2_with (first
        | (go_at_call 39; refine HA.mono ?_; rintro e w1 ⟨rfl, hb⟩)
        | (go_at_call 41; refine (HC.out _ hb).mono ?_; rintro e w2 ⟨rfl, hb2⟩))
      go_ret
      exact ⟨rfl, hb.trans (hb2.mono (below_size hb))⟩
    | true =>
      rw [if_pos rfl] at h
      obtain rfl := Option.some.inj h
      clear h
      go_enter Tryd.func23, Tryd.ntmps23
      go_wp2_with (first
        | (go_at_call 39; refine HA.mono ?_; rintro e w1 ⟨rfl, hb⟩)
        | (go_at_call 41; refine (HC.out _ hb).mono ?_; rintro e w2 ⟨rfl, hb2⟩; have HW0 := Aside0.mk (hb.trans (hb2.mono (below_size hb))); clear hb2 hb))
      clear HA HC
      go_loopg [3, 4, 20] l0.length (fun gg _ _ s20 wr => ∃ i : Int, 0 ≤ i ∧ i ≤ l0.length ∧ (l0.length : Int) - i ≤ gg ∧ s20 = .int .i64 i ∧ Aside0 (Below w.heap.size w wr) ∧ Aside0 (∀ j : Nat, (j : Int) < i → dupAt l0 j = false))
      case atStart => exact ⟨0, by omega, by omega, by omega, rfl, HW0, ⟨fun j hj => by omega⟩⟩
      case round =>
        obtain ⟨i, h0, h1, hg, rfl, HW, HA⟩ := hrel
        by_cases hlt : i < (l0.length : Int)
        · obtain ⟨ad, e, hx0, hx1, hx2, hx3, hx4⟩ := at_T42 HR.out i h0 hlt
          cases e
          replace hx0 := (HW.out.cell (World.block_lt_of_cell? w _ hx0)).trans hx0
          replace hx1 := (HW.out.cell (World.block_lt_of_cell? w _ hx1)).trans hx1
          replace hx2 := (HW.out.cell (World.block_lt_of_cell? w _ hx2)).trans hx2
          replace hx3 := (HW.out.cell (World.block_lt_of_cell? w _ hx3)).trans hx3
          replace hx4 := (HW.out.cell (World.block_lt_of_cell? w _ hx4)).trans hx4
          have HL : Aside0 (i.toNat ≤ l0.length) := ⟨by omega⟩
          have HT := Aside0.mk hlt
          cases hv : dupAt l0 i with
          | true =>
            have HV : Aside0 ((l0.take i.toNat).any (fun t => t.f1.toList == (rd_T42 l0 i).f1.toList) = true) := ⟨hv⟩
            clear hv
            go_wp2_with (go_at_call 43; refine (containsTake (fun t => t.f1.toList == (rd_T42 l0 i).f1.toList) 44 (.pointer (some ⟨wr.heap.size, 0, none⟩)) e36 _ ?hq_ (some ad) c0 i.toNat l0 ?hr_ hc0 HL.out).mono ?_; (case hr_ => exact Kd.C_alloc (Kd.C_below HR.out HW.out) _); (case hq_ => exact (fun W x hW => nameLit (rd_T42 l0 i).f1 _ W ((hW.cell (p := ⟨wr.heap.size, 1, none⟩) (by simp)).trans (by simp)) x)); rintro e w' ⟨he, hb⟩; rw [HV.out] at he; subst he)
            go_ret
            refine ⟨?_, below_step (by repeat (first | (with_reducible first | exact HW.out | apply below_alloc | apply pw_below_drewN | apply below_drew1) | exact HW.out)) hb⟩
            rw [namesB_no l0 i h0 HT.out HV.out]
            rfl
          | false =>
            have HV : Aside0 ((l0.take i.toNat).any (fun t => t.f1.toList == (rd_T42 l0 i).f1.toList) = false) := ⟨hv⟩
            clear hv
            go_wp2_with (go_at_call 43; refine (containsTake (fun t => t.f1.toList == (rd_T42 l0 i).f1.toList) 44 (.pointer (some ⟨wr.heap.size, 0, none⟩)) e36 _ ?hq_ (some ad) c0 i.toNat l0 ?hr_ hc0 HL.out).mono ?_; (case hr_ => exact Kd.C_alloc (Kd.C_below HR.out HW.out) _); (case hq_ => exact (fun W x hW => nameLit (rd_T42 l0 i).f1 _ W ((hW.cell (p := ⟨wr.heap.size, 1, none⟩) (by simp)).trans (by simp)) x)); rintro e w' ⟨he, hb⟩; rw [HV.out] at he; subst he; have HW2 := Aside0.mk (below_step (by repeat (first | (with_reducible first | exact HW.out | apply below_alloc | apply pw_below_drewN | apply below_drew1) | exact HW.out)) hb); clear hb HW; have HW := HW2; clear HW2)
            go_roundg (l0.length - (i + 1).toNat)
            case measure => omega
            case rel =>
              refine ⟨i + 1, by omega, by omega, by omega, rfl, HW, ⟨fun j hj => ?_⟩⟩
              by_cases e : (j : Int) = i
              · rw [e]; exact HV.out
              · exact HA.out j (by omega)
        · have hi : i = l0.length := by omega
          have HI := Aside0.mk hi
          clear hi
          go_wp2
          go_ret
          refine ⟨?_, HW.out⟩
          rw [namesB_yes l0 (fun j hj => HA.out j (by rw [HI.out]; omega))]
          rfl


end Go.Proofs.YtggikmajopmchaaDoor.G
