-- Printed by a program of this session (wip/tools/gp.sh); Lean checks it.
import Derived.Test.YtceiacmieipleaaDoorGx0
import Derived.Test.YtceiacmieipleaaDoorGx1
namespace Go.Proofs.YtceiacmieipleaaDoor.G
open Go.RowKit Go.Proofs.YtceiacmieipleaaDoorW.PrintWords Go.Proofs.YtceiacmieipleaaDoorW.PrintLast Go.Proofs.YtceiacmieipleaaDoorW.PrintMore
attribute [local go_sem] isSome_setCell_ max2_int min2_int max_two min_two max_three min_three max_four min_four   -- for this text's walks alone
set_option linter.unusedVariables false
set_option linter.unusedSimpArgs false

/-! ### impl_isWord: function 28 -/
/-- The letters of a word. -/
def letters : List UInt8 := [97, 98, 99, 100, 101, 102, 103, 104, 105, 106, 107, 108, 109, 110, 111, 112, 113, 114, 115, 116, 117, 118, 119, 120, 121, 122]
def wordB (s : ByteArray) : Bool := decide (1 ≤ s.size) && (decide (s.size ≤ 10) && s.data.toList.all (letters.contains ·))
theorem dw_nil {α : Type} (p : α → Bool) : ∀ l : List α, (l.dropWhile p).isEmpty = l.all p
  | [] => rfl
  | x :: xs => by
    rw [List.dropWhile_cons, List.all_cons]
    cases p x with
    | true => simpa using dw_nil p xs
    | false => simp
theorem dw_head {α : Type} (p : α → Bool) : ∀ l : List α, l.dropWhile p = [] ∨ ∃ x ∈ l.dropWhile p, p x = false
  | [] => Or.inl rfl
  | x :: xs => by
    rw [List.dropWhile_cons]
    cases h : p x with
    | true => simpa using dw_head p xs
    | false => exact Or.inr ⟨x, by simp, h⟩
theorem trim_nil (l cs : List UInt8) : (Lib.trimS l cs).isEmpty = l.all (cs.contains ·) := by
  unfold Lib.trimS Lib.trimLeftS Lib.trimRightS
  rw [dw_nil, List.all_reverse]
  rcases dw_head (cs.contains ·) l.reverse with h | ⟨x, hx, h⟩
  · have := dw_nil (cs.contains ·) l.reverse
    rw [h, List.all_reverse] at this
    rw [h, ← this]; rfl
  · have h1 : (l.reverse.dropWhile (cs.contains ·)).all (cs.contains ·) = false := by
      rw [Bool.eq_false_iff]
      intro c
      rw [List.all_eq_true] at c
      rw [c x hx] at h
      cases h
    have h2 : l.all (cs.contains ·) = false := by
      rw [Bool.eq_false_iff]
      intro c
      rw [List.all_eq_true] at c
      have := c x (by simpa using (List.dropWhile_sublist _).subset hx)
      rw [this] at h
      cases h
    rw [h1, h2]
theorem letters_ascii : ∀ (j : Nat) (b : UInt8), letters[j]? = some b → b.toNat < 128 := by
  intro j b h
  have : ∀ x ∈ letters, x.toNat < 128 := by decide
  exact this b (List.mem_of_getElem? h)
theorem bytes_nil (l : List UInt8) : (⟨l.toArray⟩ : ByteArray).toList.isEmpty = l.isEmpty := by
  rw [ByteArray.toList_mk]
theorem in_go (a b c : Int) (r : Bool) (h : (decide (b ≤ a) && decide (a ≤ c)) = r) (W : World) : Calls Tryd.prog 17 #[.int .i64 a, .int .i64 b, .int .i64 c] W fun e w' => e = .returned (.bool r) ∧ W = w' := by
  subst h
  by_cases h1 : b ≤ a
  · have h1b : decide (b ≤ a) = true := decide_eq_true h1
    rw [h1b]
    clear h1
    go_enter Tryd.func17, Tryd.ntmps17
    go_wp2
    go_ret
    exact ⟨by first | rfl | (simp; done), rfl⟩
  · have h1b : decide (b ≤ a) = false := decide_eq_false h1
    rw [h1b]
    clear h1
    go_enter Tryd.func17, Tryd.ntmps17
    go_wp2
    go_ret
    exact ⟨by first | rfl | (simp; done), rfl⟩
def impl_isWord.f (a0 : ByteArray) : Option (Bool) := some (wordB a0)
set_option maxHeartbeats 2000000 in
theorem impl_isWord.calls (a0 : ByteArray) (r : Bool) (w : World) (h : impl_isWord.f a0 = some r) :
    Calls Tryd.prog 28 #[.string a0] w fun e w' => e = .returned (.bool r) ∧ Below w.heap.size w w' := by
  unfold impl_isWord.f at h
  obtain rfl := Option.some.inj h
  clear h
  unfold wordB
  by_cases h1 : 1 ≤ a0.size
  · by_cases h2 : a0.size ≤ 10
    · rw [decide_eq_true h1, decide_eq_true h2, ← trim_nil, ← bytes_nil]
      simp only [Bool.true_and]
      have HT : ∀ W, Calls Tryd.prog 35 #[.string a0, .string ⟨#[97, 98, 99, 100, 101, 102, 103, 104, 105, 106, 107, 108, 109, 110, 111, 112, 113, 114, 115, 116, 117, 118, 119, 120, 121, 122]⟩] W fun e w' => e = .returned (.string ⟨(Lib.trimS a0.data.toList letters).toArray⟩) ∧ Below W.heap.size W w' := fun W => Any.strings_Trim_laid Tryd.laysTrim (by kernel_rfl) a0 ⟨#[97, 98, 99, 100, 101, 102, 103, 104, 105, 106, 107, 108, 109, 110, 111, 112, 113, 114, 115, 116, 117, 118, 119, 120, 121, 122]⟩ W (by omega) (by decide) letters_ascii
      have HI := in_go (a0.size : Int) 1 10 true (by simp; omega)
      generalize (⟨(Lib.trimS a0.data.toList letters).toArray⟩ : ByteArray) = r at HT ⊢
      go_enter Tryd.func28, Tryd.ntmps28
      go_wp2_with (first | (go_at_call 17; refine (HI _).mono ?_; rintro e w' ⟨rfl, rfl⟩) | (go_at_call 35; refine (HT _).mono ?_; rintro e w' ⟨rfl, hb⟩))
      go_ret
      exact ⟨rfl, hb⟩
    · rw [decide_eq_true h1, decide_eq_false h2]
      go_enter Tryd.func28, Tryd.ntmps28
      go_wp2
      go_ret
      exact ⟨rfl, by repeat (first | exact Below.refl _ _ | apply below_alloc | apply pw_below_drewN | apply below_drew1)⟩
  · rw [decide_eq_false h1]
    go_enter Tryd.func28, Tryd.ntmps28
    go_wp2
    go_ret
    exact ⟨rfl, by repeat (first | exact Below.refl _ _ | apply below_alloc | apply pw_below_drewN | apply below_drew1)⟩



/-! ### impl_IsRecipe_1: function 27 -/
def impl_IsRecipe_1.f (a0_0 : ByteArray) (a0_1 : Int) : Option (Bool) := (impl_isWord.f a0_0).bind fun t105 => (if t105 = true then ((impl_in.f a0_1 1 1000).bind fun t106 => (some t106)) else (some false))
set_option maxHeartbeats 8000000 in
set_option maxRecDepth 100000 in
theorem impl_IsRecipe_1.calls (a0_0 : ByteArray) (a0_1 : Int) (r : Bool) (w : World) (h : impl_IsRecipe_1.f a0_0 a0_1 = some r) :
    Calls Tryd.prog 27 #[.agg #[.string a0_0, .int .i64 a0_1]] w fun e w' => e = .returned (.bool r) ∧ Below w.heap.size w w' := by
  have hu36 := Tryd.underlying36
  have HB := Aside0.mk (Below.refl w.heap.size w)
  have H : ((impl_isWord.f a0_0).bind fun t105 => (if t105 = true then ((impl_in.f a0_1 1 1000).bind fun t106 => (some t106)) else (some false))) = some r := h
  clear h
  replace H := Option.bind_eq_some_iff.mp H
  obtain ⟨t105, A20, H⟩ := H
  replace H : (if t105 = true then ((impl_in.f a0_1 1 1000).bind fun t106 => (some t106)) else (some false)) = some r := H
  have A2 := Aside0.mk A20
  clear A20
  by_cases c3 : t105 = true
  · subst c3
    have H1 : ((impl_in.f a0_1 1 1000).bind fun t106 => (some t106)) = some r := by rw [if_pos rfl] at H; exact H
    clear H
    have H := H1
    clear H1
    replace H := Option.bind_eq_some_iff.mp H
    obtain ⟨t106, A40, H⟩ := H
    replace H : (some t106) = some r := H
    have A4 := Aside0.mk A40
    clear A40
    obtain rfl := Option.some.inj H
    go_enter Tryd.func27, Tryd.ntmps27
    go_wp2_with (first | ((with_reducible refine gate_dst (N := 1) rfl ?_); refine box_event ?hg (N := 1) ?hd (cs := #[.string a0_0, .int .i64 a0_1]) (t := 36) ?hr ?_; (case hd => rfl); (case hg => rfl); (case hr => first | (go_simp; done) | (go_simp; rfl)); intro gb104 hg w5 hbox hb; have n0_ := Aside0.mk (below_step (by repeat (first | (with_reducible first | exact HB.out | apply below_alloc | apply pw_below_drewN | apply below_drew1) | exact HB.out)) hb); have n1_ := Aside0.mk (hbox); have n2_ := Aside0.mk ((by rw [hg]; exact (below_size (by repeat (first | (with_reducible first | exact HB.out | apply below_alloc | apply pw_below_drewN | apply below_drew1) | exact HB.out))) : w.heap.size ≤ gb104)); have n3_ := Aside0.mk ((by rw [hg]; exact (below_size (by repeat (first | (with_reducible first | exact HB.out | apply below_alloc | apply pw_below_drewN | apply below_drew1) | exact HB.out))) : w.heap.size ≤ gb104)); clear HB; have HB := n0_; have BK104 := n1_; have GW104 := n2_; have GE104 := n3_; clear n0_ n1_ n2_ n3_; clear hb hbox hg; have hcz6_0 : w5.cell? ⟨gb104, 0, none⟩ = some (.string a0_0) := (blk_cell BK104.out 0).trans rfl; have hcz6_1 : w5.cell? ⟨gb104, 1, none⟩ = some (.int .i64 a0_1) := (blk_cell BK104.out 1).trans rfl; have hfz6_0 := blk_frozen BK104.out 0; have hfz6_1 := blk_frozen BK104.out 1) | ((with_reducible refine gate_callee (f := 28) rfl ?_); refine goesL_ (some 5) rfl rfl Tryd.func28 (by kernel_rfl) rfl #[.string a0_0] rfl (by (try simp only [List.map_toArray, List.map_cons, List.map_nil]); first | done | rfl | (simp only [List.length_drop, List.length_take]; rfl)) ?_; (with_reducible refine (impl_isWord.calls a0_0 true _ A2.out).mono ?_); rintro e w7 ⟨rfl, hb⟩; refine ⟨_, rfl, ?_⟩; have n0_ := Aside0.mk (blk_below (g := gb104) (o := .cells #[.string a0_0, .int .i64 a0_1] 36 (0, 0)) (by (with_reducible repeat (first | refine blk_drewN ?_ _ | refine blk_drew ?_ | refine blk_alloc ?_ _)); exact BK104.out) hb); have n1_ := Aside0.mk (below_step (by repeat (first | (with_reducible first | exact HB.out | apply below_alloc | apply pw_below_drewN | apply below_drew1 | refine below_set ?_ GE104.out) | exact HB.out)) hb); clear BK104; clear HB; have BK104 := n0_; have HB := n1_; clear n0_ n1_; (try clear hb); (try clear hb2); (try clear hk); (try clear hi); have hcz8_0 : w7.cell? ⟨gb104, 0, none⟩ = some (.string a0_0) := (blk_cell BK104.out 0).trans rfl; have hcz8_1 : w7.cell? ⟨gb104, 1, none⟩ = some (.int .i64 a0_1) := (blk_cell BK104.out 1).trans rfl; have hfz8_0 := blk_frozen BK104.out 0; have hfz8_1 := blk_frozen BK104.out 1) | (go_at_call 17; (with_reducible refine (impl_in.calls a0_1 1 1000 t106 _ A4.out).mono ?_); rintro e w' ⟨rfl, ⟨nd, rfl⟩⟩))
    go_ret
    exact ⟨by first | rfl | (simp [errW_none, errW_some] <;> rfl) | (simp [*, errW_none, errW_some] <;> rfl), by repeat (first | (with_reducible first | exact HB.out | apply below_alloc | apply pw_below_drewN | apply below_drew1 | refine below_set ?_ GE104.out) | exact HB.out)⟩
  · replace c3 := Bool.eq_false_iff.mpr c3
    subst c3
    have H1 : (some false) = some r := by rw [if_neg (show ¬ (false = true) by decide)] at H; exact H
    clear H
    have H := H1
    clear H1
    obtain rfl := Option.some.inj H
    go_enter Tryd.func27, Tryd.ntmps27
    go_wp2_with (first | ((with_reducible refine gate_dst (N := 1) rfl ?_); refine box_event ?hg (N := 1) ?hd (cs := #[.string a0_0, .int .i64 a0_1]) (t := 36) ?hr ?_; (case hd => rfl); (case hg => rfl); (case hr => first | (go_simp; done) | (go_simp; rfl)); intro gb104 hg w9 hbox hb; have n0_ := Aside0.mk (below_step (by repeat (first | (with_reducible first | exact HB.out | apply below_alloc | apply pw_below_drewN | apply below_drew1) | exact HB.out)) hb); have n1_ := Aside0.mk (hbox); have n2_ := Aside0.mk ((by rw [hg]; exact (below_size (by repeat (first | (with_reducible first | exact HB.out | apply below_alloc | apply pw_below_drewN | apply below_drew1) | exact HB.out))) : w.heap.size ≤ gb104)); have n3_ := Aside0.mk ((by rw [hg]; exact (below_size (by repeat (first | (with_reducible first | exact HB.out | apply below_alloc | apply pw_below_drewN | apply below_drew1) | exact HB.out))) : w.heap.size ≤ gb104)); clear HB; have HB := n0_; have BK104 := n1_; have GW104 := n2_; have GE104 := n3_; clear n0_ n1_ n2_ n3_; clear hb hbox hg; have hcz10_0 : w9.cell? ⟨gb104, 0, none⟩ = some (.string a0_0) := (blk_cell BK104.out 0).trans rfl; have hcz10_1 : w9.cell? ⟨gb104, 1, none⟩ = some (.int .i64 a0_1) := (blk_cell BK104.out 1).trans rfl; have hfz10_0 := blk_frozen BK104.out 0; have hfz10_1 := blk_frozen BK104.out 1) | ((with_reducible refine gate_callee (f := 28) rfl ?_); refine goesL_ (some 5) rfl rfl Tryd.func28 (by kernel_rfl) rfl #[.string a0_0] rfl (by (try simp only [List.map_toArray, List.map_cons, List.map_nil]); first | done | rfl | (simp only [List.length_drop, List.length_take]; rfl)) ?_; (with_reducible refine (impl_isWord.calls a0_0 false _ A2.out).mono ?_); rintro e w11 ⟨rfl, hb⟩; refine ⟨_, rfl, ?_⟩; have n0_ := Aside0.mk (blk_below (g := gb104) (o := .cells #[.string a0_0, .int .i64 a0_1] 36 (0, 0)) (by (with_reducible repeat (first | refine blk_drewN ?_ _ | refine blk_drew ?_ | refine blk_alloc ?_ _)); exact BK104.out) hb); have n1_ := Aside0.mk (below_step (by repeat (first | (with_reducible first | exact HB.out | apply below_alloc | apply pw_below_drewN | apply below_drew1 | refine below_set ?_ GE104.out) | exact HB.out)) hb); clear BK104; clear HB; have BK104 := n0_; have HB := n1_; clear n0_ n1_; (try clear hb); (try clear hb2); (try clear hk); (try clear hi)))
    go_ret
    exact ⟨by first | rfl | (simp [errW_none, errW_some] <;> rfl) | (simp [*, errW_none, errW_some] <;> rfl), by repeat (first | (with_reducible first | exact HB.out | apply below_alloc | apply pw_below_drewN | apply below_drew1 | refine below_set ?_ GE104.out) | exact HB.out)⟩

-- NOT PRINTED: function 48 (slices_IndexFunc_impl_DyePart_impl_DyePart)

-- NOT PRINTED: function 36 (slices_ContainsFunc_impl_DyePart_impl_DyePart)

/-! ### impl_areAll_impl_DyePart: function 29 -/
/-- The first place of a list at which a test holds, or -1. -/
def idxIDyePart (q : S36 → Bool) : List S36 → Int
  | [] => -1
  | x :: xs => if q x = true then 0 else if idxIDyePart q xs < 0 then -1 else idxIDyePart q xs + 1
theorem idxIDyePart_miss (q : S36 → Bool) : ∀ l : List S36, (∀ j : Nat, j < l.length → q (rd_T36 l j) = false) → idxIDyePart q l = -1
  | [], _ => rfl
  | x :: xs, h => by
    have h0 : q x = false := h 0 (by simp)
    have h1 := idxIDyePart_miss q xs (fun j hj => by have := h (j + 1) (by simpa using hj); simpa [rd_T36] using this)
    simp [idxIDyePart, h0, h1]
theorem idxIDyePart_hit (q : S36 → Bool) : ∀ (l : List S36) (i : Nat), i < l.length → (∀ j : Nat, j < i → q (rd_T36 l j) = false) → q (rd_T36 l i) = true → idxIDyePart q l = i
  | [], i, h, _, _ => by simp at h
  | x :: xs, 0, _, _, h => by
    have h0 : q x = true := h
    simp [idxIDyePart, h0]
  | x :: xs, i + 1, hl, hm, h => by
    have h0 : q x = false := hm 0 (by omega)
    have h1 := idxIDyePart_hit q xs i (by simpa using hl) (fun j hj => by have := hm (j + 1) (by omega); simpa [rd_T36] using this) (by simpa [rd_T36] using h)
    have h2 : ¬ ((i : Int) < 0) := by omega
    simp [idxIDyePart, h0, h1, h2]
theorem idxIDyePart_any (q : S36 → Bool) : ∀ l : List S36, decide (0 ≤ idxIDyePart q l) = l.any q
  | [] => rfl
  | x :: xs => by
    have ih := idxIDyePart_any q xs
    cases h0 : q x with
    | true => simp [idxIDyePart, h0]
    | false =>
      simp only [idxIDyePart, h0, List.any_cons, Bool.false_or, ← ih]
      by_cases c : idxIDyePart q xs < 0
      · simp [c]
      · simp [c]; omega
theorem notTDyePart (f : Nat) (p : S36 → Bool) (ef : ∀ args w, (callFunc f args).run Tryd.prog w = .ok (.enter f args) w) (hp : ∀ (x : S36) (W : World), Calls Tryd.prog f #[.agg #[.string x.f0, .int .i64 x.f1]] W fun e w' => e = .returned (.bool (p x)) ∧ Below W.heap.size W w') (x : S36) (B : Nat) (W : World) (hB : W.cell? ⟨B, 0, none⟩ = some (.func (.func f) #[] #[])) :
    Calls Tryd.prog 37 #[.agg #[.string x.f0, .int .i64 x.f1], .pointer (some ⟨B, 0, none⟩)] W fun e w' => e = .returned (.bool (!p x)) ∧ Below W.heap.size W w' := by
  have hu_ := Tryd.underlying36
  have hlt := World.block_lt_of_cell? W _ hB
  go_enter Tryd.func37, Tryd.ntmps37
  go_wp2_with (go_at_fn f; refine (hp x _).mono ?_; rintro e w' ⟨rfl, hb⟩)
  go_ret
  exact ⟨rfl, below_step (by repeat (first | exact Below.refl _ _ | apply below_alloc | apply pw_below_drewN | apply below_drew1)) hb⟩

set_option maxHeartbeats 2000000 in
theorem indexDyePart (q : S36 → Bool) (g : Nat) (lb : Value) (eg : ∀ args w, (callFunc g args).run Tryd.prog w = .ok (.enter g args) w) (w : World) (hq : ∀ W (x : S36), Below w.heap.size w W → Calls Tryd.prog g #[.agg #[.string x.f0, .int .i64 x.f1], lb] W fun e w' => e = .returned (.bool (q x)) ∧ Below W.heap.size W w')
    (A : Option Addr) (c : Nat) (l : List S36) (hr : Kd.C k36 w A l.length l) (hc : l.length ≤ c) :
    Calls Tryd.prog 48 #[.slice A l.length c, .func (.func g) #[] #[lb]] w fun e w' => e = .returned (.int .i64 (idxIDyePart q l)) ∧ Below w.heap.size w w' := by
  have hu_ := Tryd.underlying36
  have hmax := Kd.C_max hr
  have HR := Aside0.mk hr
  have HQ := Aside0.mk hq
  clear hr hq
  go_enter Tryd.func48, Tryd.ntmps48
  go_wp2
  go_loopg [5, 8] l.length (fun gg _ s8 wr => ∃ i : Int, 0 ≤ i ∧ i ≤ l.length ∧ (l.length : Int) - i ≤ gg ∧ s8 = .int .i64 i ∧ Aside0 (Below w.heap.size w wr) ∧ Aside0 (∀ j : Nat, (j : Int) < i → q (rd_T36 l j) = false))
  case atStart => exact ⟨0, by omega, by omega, by omega, rfl, ⟨by repeat (first | exact Below.refl _ _ | apply below_alloc | apply pw_below_drewN | apply below_drew1)⟩, ⟨fun j hj => by omega⟩⟩
  case round =>
    obtain ⟨i, h0, h1, hg, rfl, HW, HA⟩ := hrel
    by_cases hlt : i < (l.length : Int)
    · obtain ⟨ad, e, hx0, hx1⟩ := at_T36 HR.out i h0 hlt
      cases e
      replace hx0 := (HW.out.cell (World.block_lt_of_cell? w _ hx0)).trans hx0
      replace hx1 := (HW.out.cell (World.block_lt_of_cell? w _ hx1)).trans hx1
      cases hv : q (rd_T36 l i) with
      | true =>
        have HV := Aside0.mk hv
        clear hv
        go_wp2_with (go_at_fn g; refine (HQ.out _ (rd_T36 l i) ?hb_).mono ?_; (case hb_ => exact (by repeat (first | (with_reducible first | exact HW.out | apply below_alloc | apply pw_below_drewN | apply below_drew1) | exact HW.out))); rintro e w' ⟨he, hb⟩; rw [HV.out] at he; subst he)
        go_ret
        refine ⟨?_, below_step (by repeat (first | (with_reducible first | exact HW.out | apply below_alloc | apply pw_below_drewN | apply below_drew1) | exact HW.out)) hb⟩
        rw [idxIDyePart_hit q l i.toNat (by omega) (fun j hj => HA.out j (by omega)) (by rw [Int.toNat_of_nonneg h0]; exact HV.out), Int.toNat_of_nonneg h0]
        rfl
      | false =>
        have HV := Aside0.mk hv
        clear hv
        go_wp2_with (go_at_fn g; refine (HQ.out _ (rd_T36 l i) ?hb_).mono ?_; (case hb_ => exact (by repeat (first | (with_reducible first | exact HW.out | apply below_alloc | apply pw_below_drewN | apply below_drew1) | exact HW.out))); rintro e w' ⟨he, hb⟩; rw [HV.out] at he; subst he; have HW2 := Aside0.mk (below_step (by repeat (first | (with_reducible first | exact HW.out | apply below_alloc | apply pw_below_drewN | apply below_drew1) | exact HW.out)) hb); clear hb HW; have HW := HW2; clear HW2)
        go_roundg (l.length - (i + 1).toNat)
        case measure => omega
        case rel =>
          refine ⟨i + 1, by omega, by omega, by omega, rfl, ⟨by repeat (first | (with_reducible first | exact HW.out | apply below_alloc | apply pw_below_drewN | apply below_drew1) | exact HW.out)⟩, ⟨fun j hj => ?_⟩⟩
          by_cases e : (j : Int) = i
          · rw [e]; exact HV.out
          · exact HA.out j (by omega)
    · have hi : i = l.length := by omega
      have HI := Aside0.mk hi
      clear hi
      go_wp2
      go_ret
      refine ⟨?_, by repeat (first | (with_reducible first | exact HW.out | apply below_alloc | apply pw_below_drewN | apply below_drew1) | exact HW.out)⟩
      rw [idxIDyePart_miss q l (fun j hj => HA.out j (by rw [HI.out]; omega))]
      rfl

theorem containsDyePart (q : S36 → Bool) (g : Nat) (lb : Value) (eg : ∀ args w, (callFunc g args).run Tryd.prog w = .ok (.enter g args) w) (w : World) (hq : ∀ W (x : S36), Below w.heap.size w W → Calls Tryd.prog g #[.agg #[.string x.f0, .int .i64 x.f1], lb] W fun e w' => e = .returned (.bool (q x)) ∧ Below W.heap.size W w')
    (A : Option Addr) (c : Nat) (l : List S36) (hr : Kd.C k36 w A l.length l) (hc : l.length ≤ c) :
    Calls Tryd.prog 36 #[.slice A l.length c, .func (.func g) #[] #[lb]] w fun e w' => e = .returned (.bool (l.any q)) ∧ Below w.heap.size w w' := by
  have HC := indexDyePart q g lb eg w hq A c l hr hc
  have hi := idxIDyePart_any q l
  generalize l.any q = b at hi ⊢
  generalize idxIDyePart q l = i at HC hi
  clear hr hc hq eg
  go_enter Tryd.func36, Tryd.ntmps36
  go_wp2_with (go_at_call 48; refine HC.mono ?_; rintro e w' ⟨rfl, hb⟩)
  go_ret
  exact ⟨by rw [← hi]; rfl, hb⟩

theorem areAllDyePart (f : Nat) (p : S36 → Bool) (ef : ∀ args w, (callFunc f args).run Tryd.prog w = .ok (.enter f args) w) (hp : ∀ (x : S36) (W : World), Calls Tryd.prog f #[.agg #[.string x.f0, .int .i64 x.f1]] W fun e w' => e = .returned (.bool (p x)) ∧ Below W.heap.size W w')
    (A : Option Addr) (c : Nat) (l : List S36) (w : World) (hr : Kd.C k36 w A l.length l) (hc : l.length ≤ c) :
    Calls Tryd.prog 29 #[.slice A l.length c, .func (.func f) #[] #[]] w fun e w' => e = .returned (.bool (l.all p)) ∧ Below w.heap.size w w' := by
  have e78 : ∀ args w, (callFunc 37 args).run Tryd.prog w = .ok (.enter 37 args) w := enters_of Tryd.func37 (by kernel_rfl) rfl
  have HC := containsDyePart (fun x => !p x) 37 (.pointer (some ⟨w.heap.size, 0, none⟩)) e78 (w.alloc (.cells #[.func (.func f) #[] #[]] 47)) (fun W x hW => by
    exact notTDyePart f p ef hp x _ _ ((hW.cell (p := ⟨w.heap.size, 0, none⟩) (by simp)).trans (by simp))) A c l (Kd.C_alloc hr _) hc
  have hb : (!(l.any fun x => !p x)) = l.all p := by rw [List.all_eq_not_any_not]
  rw [← hb]
  generalize (l.any fun x => !p x) = b at HC ⊢
  clear hr hc hb
  go_enter Tryd.func29, Tryd.ntmps29
  go_wp2_with (go_at_call 36; refine HC.mono ?_; rintro e w' ⟨rfl, hb⟩)
  go_ret
  exact ⟨rfl, ((Below.refl _ w).alloc (Nat.le_refl _) _).trans (hb.mono (by simp))⟩
theorem impl_in_some (a b c : Int) : impl_in.f a b c = some (decide (b ≤ a) && decide (a ≤ c)) := by
  unfold impl_in.f
  by_cases h : a ≥ b
  · rw [if_pos h, decide_eq_true (show b ≤ a from h)]; rfl
  · rw [if_neg h, decide_eq_false (show ¬ b ≤ a from h)]; rfl
set_option maxHeartbeats 4000000 in
theorem impl_IsRecipe_1_total (x : S36) : ∃ b, impl_IsRecipe_1.f x.f0 x.f1 = some b := by
  simp only [impl_IsRecipe_1.f, impl_isWord.f, impl_in_some, Option.bind_some]
  repeat' (first | exact ⟨_, rfl⟩ | split)
def P_impl_IsRecipe_1 (x : S36) : Bool := (impl_IsRecipe_1.f x.f0 x.f1).getD false
theorem P_impl_IsRecipe_1_eq (x : S36) : impl_IsRecipe_1.f x.f0 x.f1 = some (P_impl_IsRecipe_1 x) := by
  unfold P_impl_IsRecipe_1
  have h : ∃ b, impl_IsRecipe_1.f x.f0 x.f1 = some b := impl_IsRecipe_1_total x
  obtain ⟨b, hb⟩ := h
  rw [hb]; rfl
theorem P_impl_IsRecipe_1_pred (x : S36) (W : World) : Calls Tryd.prog 27 #[.agg #[.string x.f0, .int .i64 x.f1]] W fun e w' => e = .returned (.bool (P_impl_IsRecipe_1 x)) ∧ Below W.heap.size W w' := impl_IsRecipe_1.calls x.f0 x.f1 _ W (P_impl_IsRecipe_1_eq x)
def impl_areAll_impl_DyePart.f (l0 : List (S36)) (a1 : Tok) : Option (Bool) := if a1.n = 27 then some (l0.all P_impl_IsRecipe_1) else none
theorem impl_areAll_impl_DyePart.calls (A0 : Option Addr) (c0 : Nat) (l0 : List (S36)) (a1 : Tok) (r : Bool) (w : World) (hr0 : Kd.C k36 w A0 l0.length l0) (hc0 : l0.length ≤ c0) (h : impl_areAll_impl_DyePart.f l0 a1 = some r) :
    Calls Tryd.prog 29 #[.slice A0 l0.length c0, .func (.func a1.n) #[] #[]] w fun e w' => e = .returned (.bool r) ∧ Below w.heap.size w w' := by
  obtain ⟨n_⟩ := a1
  unfold impl_areAll_impl_DyePart.f at h
  dsimp only at h ⊢
  by_cases c_ : n_ = 27
  · subst c_
    rw [if_pos rfl] at h
    obtain rfl := Option.some.inj h
    exact areAllDyePart 27 P_impl_IsRecipe_1 (enters_of Tryd.func27 (by kernel_rfl) rfl) P_impl_IsRecipe_1_pred A0 c0 l0 w hr0 hc0
  rw [if_neg c_] at h
  exact absurd h (by simp)


end Go.Proofs.YtceiacmieipleaaDoor.G
