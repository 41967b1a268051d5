-- Printed by a program of this session (wip/tools/gp.sh); Lean checks it.
import Derived.Test.YtafokpklcmegaaaDoorGx7
import Derived.Test.YtafokpklcmegaaaDoorGy0
import Derived.Test.YtafokpklcmegaaaDoorGx15
import Derived.Test.YtafokpklcmegaaaDoorShelfS
import Derived.Shelf.SlSortCmp.NoneTotal
import Derived.Sort.Grow
namespace Go.Proofs.YtafokpklcmegaaaDoor.G
open Go.RowKit Go.Proofs.YtafokpklcmegaaaDoorW.PrintWords Go.Proofs.YtafokpklcmegaaaDoorW.PrintLast Go.Proofs.YtafokpklcmegaaaDoorW.PrintMore
attribute [local go_sem] isSome_setCell_ max2_int min2_int max_two min_two max_three min_three max_four min_four   -- for this text's walks alone
set_option linter.unusedVariables false
set_option linter.unusedSimpArgs false

/-! ### A row of the call's own, sorted in place by the library: the row holds the sorted list -/
section
open Go.Sort Go.Shelf
theorem flat_get {α : Type} [Inhabited α] (enc : α → List Value) (k : Nat) (hk : ∀ x, (enc x).length = k) (xs : List α) (i c : Nat) (hi : i < xs.length) (hc : c < k) : (flatK enc k xs.toArray)[i * k + c]! = (enc xs[i])[c]! := by
  have hb : i * k + c < xs.toArray.size * k := by
    have : (i + 1) * k ≤ xs.length * k := Nat.mul_le_mul_right k hi
    rw [Nat.add_mul, Nat.one_mul] at this
    simp only [List.size_toArray]
    omega
  have hk0 : 0 < k := by omega
  rw [get_flatK enc k _ _ hb, show (i * k + c) / k = i by rw [Nat.add_comm, Nat.add_mul_div_right _ _ hk0, Nat.div_eq_of_lt hc, Nat.zero_add], show (i * k + c) % k = c by rw [Nat.add_comm, Nat.add_mul_mod_self_right, Nat.mod_eq_of_lt hc]]
  rw [getElem!_pos xs.toArray i (by simpa using hi)]
  simp
theorem holdsK_own {α : Type} [Inhabited α] {enc : α → List Value} {k : Nat} (hk : ∀ x, (enc x).length = k) {w : World} {g : Nat} {cur : Array Value} {e : TypeId} {xs : List α} (hb : w.heap[g]? = some (.cells cur e (0, 0))) (hr : Reps (fun x c => c = enc x) k xs (cur.toList.take (xs.length * k))) : HoldsK enc k w g 0 xs.toArray := by
  intro j hj
  have hj' : j < xs.length * k := by simpa using hj
  refine ⟨?_, by simp [World.frozen?, hb]⟩
  have hk0 : 0 < k := by
    rcases Nat.eq_zero_or_pos k with h0 | h0
    · rw [h0] at hj'; omega
    · exact h0
  have hi : j / k < xs.length := (Nat.div_lt_iff_lt_mul hk0).mpr hj'
  have hm : j % k < k := Nat.mod_lt _ hk0
  have h1 := hr.2 (j / k) xs[j / k] (List.getElem?_eq_getElem hi)
  have h2 := congrArg (fun l => l[j % k]?) h1
  simp only [List.getElem?_take, if_pos hm, List.getElem?_drop] at h2
  rw [Nat.mul_comm (j / k) k, Nat.div_add_mod, if_pos hj'] at h2
  have h3 := flat_get enc k hk xs (j / k) (j % k) hi hm
  rw [Nat.mul_comm (j / k) k, Nat.div_add_mod] at h3
  show w.cell? ⟨g, 0 + j, none⟩ = some (flatK enc k xs.toArray)[j]!
  rw [h3]
  simp only [World.cell?, hb, Nat.zero_add]
  simp only [Option.isSome_none, Bool.false_eq_true, if_false]
  rw [← Array.getElem?_toList, h2]
  rw [getElem!_pos (enc xs[j / k]) (j % k) (by rw [hk]; exact hm)]
  exact List.getElem?_eq_getElem _
theorem heap_sortedK {α : Type} [Inhabited α] {enc : α → List Value} {k : Nat} {w : World} {g n : Nat} {os : Array Obj} {cur : Array Value} {e : TypeId} {fr : Nat × Nat} (d : Array α) (hb : w.heap[g]? = some (.cells cur e fr)) :
    (sortWorldK enc k w g 0 n d os).heap[g]? = some (.cells (putCells id 0 (flatK enc k d) cur) e fr) := by
  have hg : g < w.heap.size := (Array.getElem?_eq_some_iff.1 hb).1
  unfold sortWorldK putRowK
  rw [heap_grow_old _ _ (by simpa using hg)]
  simp [putRow, mapBlock, Sort.ahead, Array.getElem?_modify, hb, onCells]
theorem below_sortedK {α : Type} [Inhabited α] {enc : α → List Value} {k : Nat} {w : World} {g n base : Nat} {os : Array Obj} (d : Array α) (hg : base ≤ g) (hw : base ≤ w.heap.size) : Below base w (sortWorldK enc k w g 0 n d os) := by
  refine ⟨rfl, rfl, rfl, ?_, fun j hj => ?_⟩
  · simp [sortWorldK, putRowK, grow, putRow, mapBlock, Sort.ahead]
  · unfold sortWorldK putRowK
    rw [heap_grow_old _ _ (by simp [putRow, mapBlock, Sort.ahead]; omega)]
    have : g ≠ j := by omega
    simp [putRow, mapBlock, Sort.ahead, Array.getElem?_modify, this]
theorem reps_sortedK {α : Type} [Inhabited α] {enc : α → List Value} {k : Nat} (hk : ∀ x, (enc x).length = k) (cur : Array Value) (ys : List α) (h : ys.length * k ≤ cur.size) : Reps (fun x c => c = enc x) k ys ((putCells id 0 (flatK enc k ys.toArray) cur).toList.take (ys.length * k)) := by
  refine ⟨?_, fun j p hp => ?_⟩
  · rw [List.length_take, Array.length_toList]
    simp [putCells]
    omega
  · obtain ⟨hj, rfl⟩ := List.getElem?_eq_some_iff.1 hp
    apply List.ext_getElem?
    intro q
    rw [List.getElem?_take, List.getElem?_drop, List.getElem?_take]
    by_cases hq : q < k
    · have hb : j * k + q < ys.length * k := by
        have : (j + 1) * k ≤ ys.length * k := Nat.mul_le_mul_right k hj
        rw [Nat.add_mul, Nat.one_mul] at this
        omega
      rw [if_pos hq, if_pos hb, Array.getElem?_toList]
      have h3 := flat_get enc k hk ys j q hj hq
      rw [List.getElem?_eq_getElem (by rw [hk]; exact hq)]
      rw [getElem!_pos (enc ys[j]) q (by rw [hk]; exact hq)] at h3
      rw [← h3]
      have hs : (flatK enc k ys.toArray).size = ys.length * k := by simp
      simp [putCells, hs, hb, show j * k + q < cur.size by omega]
    · rw [if_neg hq, List.getElem?_eq_none (by rw [hk]; omega)]
/-- The slice of the call's own, behind the sort. -/
theorem R_sortedK {α : Type} [Inhabited α] {d : Kd α} {e : Nat} {enc : α → List Value} (hk : ∀ x, (enc x).length = d.sz) (hM : ∀ (w : World) base ok x cs, d.M w base ok x cs → cs = enc x) (hM' : ∀ (w : World) base ok x, d.M w base ok x (enc x)) {w : World} {base : Nat} {ok : Nat → Prop} {g cap : Nat} {xs ys : List α} (hl : ys.length = xs.length)
    (h : d.R e w base ok (.slice (some ⟨g, 0, none⟩) xs.length cap) xs) (n : Nat) (os : Array Obj) :
    base ≤ g ∧ g < w.heap.size ∧ HoldsK enc d.sz w g 0 xs.toArray ∧ d.R e (sortWorldK enc d.sz w g 0 n ys.toArray os) base ok (.slice (some ⟨g, 0, none⟩) xs.length cap) ys := by
  obtain ⟨h0, inner, ⟨hi, ho⟩, hr⟩ := h
  rcases ho with ⟨hv, _⟩ | ⟨g', cap', cur, hv, hg, hh, h1, h2, h3, h4⟩
  · cases hv
  · injection hv with hv hv1 hv2
    injection hv with hv
    injection hv with hv _ _
    subst hv hv2
    have hr2 : Reps (fun x c => c = enc x) d.sz xs inner := hr.imp_ (fun _ _ hp => hM _ _ _ _ _ hp)
    rw [← h4] at hr2
    have hc : ys.length * d.sz ≤ cur.size := by rw [h3, hl]; exact Nat.mul_le_mul_right _ h1
    refine ⟨hg, (Array.getElem?_eq_some_iff.1 hh).1, holdsK_own hk hh hr2, h0, _, ⟨?_, .inr ⟨g, cap, _, by rw [hl], hg, heap_sortedK _ hh, by omega, h2, by simp [putCells, h3], rfl⟩⟩, (reps_sortedK hk cur ys hc).imp_ (fun x c hp => by rw [hp]; exact hM' _ _ _ _)⟩
    exact (reps_sortedK hk cur ys hc).1
end
def Gr (W w' : World) : Prop := ∃ q os, w' = Go.Sort.grow (W.drewN q) os
theorem drewN_drewN_ (w : World) (a b : Nat) : (w.drewN a).drewN b = w.drewN (a + b) := by simp [World.drewN, Nat.add_assoc]
theorem gr_refl (W : World) : Gr W W := ⟨0, #[], by simp [Go.Sort.grow]; rfl⟩
theorem gr_drewN {W w : World} (h : Gr W w) (n : Nat) : Gr W (w.drewN n) := by
  obtain ⟨q, os, rfl⟩ := h
  exact ⟨q + n, os, by rw [← drewN_drewN_]; rfl⟩
theorem gr_drew {W w : World} (h : Gr W w) : Gr W w.drew := gr_drewN h 1
theorem gr_alloc {W w : World} (h : Gr W w) (o : Obj) : Gr W (w.alloc o) := by
  obtain ⟨q, os, rfl⟩ := h
  exact ⟨q, os ++ #[o], by rw [Go.Sort.alloc_eq_grow, Go.Sort.grow_grow]⟩
theorem gr_trans {W w v : World} (h : Gr W w) (k : Gr w v) : Gr W v := by
  obtain ⟨q, os, rfl⟩ := h
  obtain ⟨p, os', rfl⟩ := k
  exact ⟨q + p, os ++ os', by rw [← Go.Sort.grow_grow, ← drewN_drewN_]; rfl⟩
theorem Gr.below {W w : World} (h : Gr W w) : Below W.heap.size W w := by
  obtain ⟨q, os, rfl⟩ := h
  refine ⟨rfl, rfl, rfl, by simp [Go.Sort.grow], fun k hk => ?_⟩
  show (W.heap ++ os)[k]? = _
  rw [Array.getElem?_append_left hk]
set_option maxHeartbeats 4000000 in
theorem turnLit (fr : Int) (f0 : 0 ≤ fr) (f1 : fr ≤ 23) (B : Nat) (W : World) (kf : W.cell? ⟨B, 0, none⟩ = some (.int .i64 fr)) (x0 : Int) (x1 : ByteArray) (x2 x3 x4 : Int) (v : Int) (hv : (wrap64 (wrap64 (x2 - fr) + 24)).tmod 24 = v) :
    Calls Tryd.prog 57 #[.agg #[.int .i64 x0, .string x1, .int .i64 x2, .int .i64 x3, .int .i64 x4], .pointer (some ⟨B, 0, none⟩)] W fun e w' => e = .returned (.int .i64 v) ∧ Gr W w' := by
  have hu_ := Tryd.underlying48
  have hlt := World.block_lt_of_cell? W _ kf
  have HV := Aside0.mk hv
  clear hv
  go_enter Tryd.func57, Tryd.ntmps57
  go_wp2
  go_ret
  exact ⟨by rw [← HV.out]; rfl, by repeat (first | exact gr_refl _ | apply gr_alloc | apply gr_drewN | apply gr_drew)⟩
def turnV (fr z : Int) : Int := (wrap64 (wrap64 (z - fr) + 24)).tmod 24
set_option maxHeartbeats 8000000 in
set_option maxRecDepth 100000 in
theorem wheelLit (cmpV : Int → Int → Int) (r fr : Int) (B F : Nat) (W : World) (kf : W.cell? ⟨F, 0, none⟩ = some (.int .i64 fr)) (kg : W.cell? ⟨B, 0, none⟩ = some (.func (.func 57) #[] #[.pointer (some ⟨F, 0, none⟩)]))
    (x0 : Int) (x1 : ByteArray) (x2 x3 x4 : Int) (y0 : Int) (y1 : ByteArray) (y2 y3 y4 : Int)
    (hT : ∀ (z0 : Int) (z1 : ByteArray) (z2 z3 z4 : Int) (V : World), V.cell? ⟨F, 0, none⟩ = some (.int .i64 fr) → Calls Tryd.prog 57 #[.agg #[.int .i64 z0, .string z1, .int .i64 z2, .int .i64 z3, .int .i64 z4], .pointer (some ⟨F, 0, none⟩)] V fun e w' => e = .returned (.int .i64 (turnV fr z2)) ∧ Gr V w')
    (hC : ∀ (a b : Int) (V : World), Calls Tryd.prog 52 #[.int .i64 a, .int .i64 b] V fun e w' => e = .returned (.int .i64 (cmpV a b)) ∧ Drawn0 V w')
    (hO : ∀ (V : World) (p : Nat), V.cell? ⟨p, 0, none⟩ = some (.int .i64 (cmpV (turnV fr x2) (turnV fr y2))) → V.cell? ⟨p, 1, none⟩ = some (.int .i64 (cmpV x3 y3)) → V.cell? ⟨p, 2, none⟩ = some (.int .i64 (cmpV x0 y0)) → Calls Tryd.prog 61 #[.slice (some ⟨p, 0, none⟩) 3 3] V fun e w' => e = .returned (.int .i64 r) ∧ Drawn0 V w') :
    Calls Tryd.prog 60 #[.agg #[.int .i64 x0, .string x1, .int .i64 x2, .int .i64 x3, .int .i64 x4], .agg #[.int .i64 y0, .string y1, .int .i64 y2, .int .i64 y3, .int .i64 y4], .pointer (some ⟨B, 0, none⟩)] W fun e w' => e = .returned (.int .i64 r) ∧ Gr W w' := by
  have hu_ := Tryd.underlying48
  have hltF := World.block_lt_of_cell? W _ kf
  have hltB := World.block_lt_of_cell? W _ kg
  have e57 : ∀ args w, (callFunc 57 args).run Tryd.prog w = .ok (.enter 57 args) w := enters_of Tryd.func57 (by kernel_rfl) rfl
  have HT := Aside0.mk hT
  have HC := Aside0.mk hC
  have HO := Aside0.mk hO
  clear hT hC hO
  go_enter Tryd.func60, Tryd.ntmps60
  go_wp2
  go_region_held3 (fun w' => Gr W w' ∧ W.heap.size + 2 ≤ w'.heap.size ∧ w'.cell? ⟨W.heap.size, 0, none⟩ = some (.int .i64 x0) ∧ w'.cell? ⟨W.heap.size, 1, none⟩ = some (.string x1) ∧ w'.cell? ⟨W.heap.size, 2, none⟩ = some (.int .i64 x2) ∧ w'.cell? ⟨W.heap.size, 3, none⟩ = some (.int .i64 x3) ∧ w'.cell? ⟨W.heap.size, 4, none⟩ = some (.int .i64 x4) ∧ w'.cell? ⟨W.heap.size + 1, 0, none⟩ = some (.int .i64 y0) ∧ w'.cell? ⟨W.heap.size + 1, 1, none⟩ = some (.string y1) ∧ w'.cell? ⟨W.heap.size + 1, 2, none⟩ = some (.int .i64 y2) ∧ w'.cell? ⟨W.heap.size + 1, 3, none⟩ = some (.int .i64 y3) ∧ w'.cell? ⟨W.heap.size + 1, 4, none⟩ = some (.int .i64 y4) ∧ w'.cell? ⟨B, 0, none⟩ = some (.func (.func 57) #[] #[.pointer (some ⟨F, 0, none⟩)]) ∧ w'.cell? ⟨F, 0, none⟩ = some (.int .i64 fr))
    ((refine ⟨by first | assumption | (repeat (first | assumption | exact gr_refl _ | apply gr_alloc | apply gr_drewN | apply gr_drew)), by first | assumption | (simp; done) | (simp; omega) | omega, ?_⟩; first | go_keep | (exact ⟨by assumption, by assumption, by assumption, by assumption, by assumption, by assumption, by assumption, by assumption, by assumption, by assumption, by assumption, by assumption⟩)))
    (first
    | (go_at_fn 57; refine (HT.out _ _ _ _ _ _ (by first | assumption | (simp [*]; done))).mono ?_; rintro e w1 ⟨rfl, hb1⟩; obtain ⟨hc1, hf1⟩ := bcell_ hb1.below; have hz1 := hb1.below.size; (try simp at hz1); have hz2 : W.heap.size + 2 ≤ w1.heap.size := (by omega); have HW1 : Gr W w1 := gr_trans (by first | assumption | (repeat (first | assumption | exact gr_refl _ | apply gr_alloc | apply gr_drewN | apply gr_drew))) hb1; have qB := (HW1.below.cell (p := ⟨B, 0, none⟩) hltB).trans kg; have qF := (HW1.below.cell (p := ⟨F, 0, none⟩) hltF).trans kf; (try have qx0 : w1.cell? ⟨W.heap.size, 0, none⟩ = some (.int .i64 x0) := (hc1 _ _ (by first | omega | (simp; done) | (simp; omega))).trans (by first | assumption | (simp [*]; done))); (try have qx1 : w1.cell? ⟨W.heap.size, 1, none⟩ = some (.string x1) := (hc1 _ _ (by first | omega | (simp; done) | (simp; omega))).trans (by first | assumption | (simp [*]; done))); (try have qx2 : w1.cell? ⟨W.heap.size, 2, none⟩ = some (.int .i64 x2) := (hc1 _ _ (by first | omega | (simp; done) | (simp; omega))).trans (by first | assumption | (simp [*]; done))); (try have qx3 : w1.cell? ⟨W.heap.size, 3, none⟩ = some (.int .i64 x3) := (hc1 _ _ (by first | omega | (simp; done) | (simp; omega))).trans (by first | assumption | (simp [*]; done))); (try have qx4 : w1.cell? ⟨W.heap.size, 4, none⟩ = some (.int .i64 x4) := (hc1 _ _ (by first | omega | (simp; done) | (simp; omega))).trans (by first | assumption | (simp [*]; done))); (try have qy0 : w1.cell? ⟨W.heap.size + 1, 0, none⟩ = some (.int .i64 y0) := (hc1 _ _ (by first | omega | (simp; done) | (simp; omega))).trans (by first | assumption | (simp [*]; done))); (try have qy1 : w1.cell? ⟨W.heap.size + 1, 1, none⟩ = some (.string y1) := (hc1 _ _ (by first | omega | (simp; done) | (simp; omega))).trans (by first | assumption | (simp [*]; done))); (try have qy2 : w1.cell? ⟨W.heap.size + 1, 2, none⟩ = some (.int .i64 y2) := (hc1 _ _ (by first | omega | (simp; done) | (simp; omega))).trans (by first | assumption | (simp [*]; done))); (try have qy3 : w1.cell? ⟨W.heap.size + 1, 3, none⟩ = some (.int .i64 y3) := (hc1 _ _ (by first | omega | (simp; done) | (simp; omega))).trans (by first | assumption | (simp [*]; done))); (try have qy4 : w1.cell? ⟨W.heap.size + 1, 4, none⟩ = some (.int .i64 y4) := (hc1 _ _ (by first | omega | (simp; done) | (simp; omega))).trans (by first | assumption | (simp [*]; done))); clear hc1 hf1 hb1)
    | (go_at_call 52; refine (HC.out _ _ _).mono ?_; rintro e w3 ⟨rfl, n3, rfl⟩)
    | (go_at_call 61; refine (HO.out _ _ ?k0_ ?k1_ ?k2_).mono ?_; (case k0_ => first | assumption | (rw [World.cell?_alloc_at _ _ _ _ (by first | rfl | (simp; done))]; rfl) | ((refine (World.cell?_alloc_at _ _ _ _ ?_).trans ?_) <;> first | rfl | (simp; done))); (case k1_ => first | assumption | (rw [World.cell?_alloc_at _ _ _ _ (by first | rfl | (simp; done))]; rfl) | ((refine (World.cell?_alloc_at _ _ _ _ ?_).trans ?_) <;> first | rfl | (simp; done))); (case k2_ => first | assumption | (rw [World.cell?_alloc_at _ _ _ _ (by first | rfl | (simp; done))]; rfl) | ((refine (World.cell?_alloc_at _ _ _ _ ?_).trans ?_) <;> first | rfl | (simp; done))); rintro e w3 ⟨rfl, n3, rfl⟩))
  go_wp2
  go_ret
  exact ⟨rfl, by first | assumption | (repeat (first | assumption | exact gr_refl _ | apply gr_alloc | apply gr_drewN | apply gr_drew))⟩
def cmpV (a b : Int) : Int := if a < b then -1 else if a > b then 1 else 0
theorem cmpV_eq (a b : Int) : cmp_Compare_int.f a b = some (cmpV a b) := by
  unfold cmp_Compare_int.f cmp_isNaN_int.f cmpV
  have h1 : (a != a) = false := by simp
  have h2 : (b != b) = false := by simp
  rw [h1, h2]
  by_cases c : a < b
  · simp [c]
  · by_cases c2 : a > b <;> simp [c, c2]
def or3 (a b c : Int) : Int := if a = 0 then (if b = 0 then c else b) else a
theorem or3_eq (a b c : Int) : cmp_Or_int.f 4 [a, b, c] = some (or3 a b c) := by
  unfold cmp_Or_int.f or3
  simp only [List.length_cons, List.length_nil, cmp_Or_int.l0, rd]
  by_cases h1 : a = 0
  · by_cases h2 : b = 0
    · by_cases h3 : c = 0
      · subst h1 h2 h3; simp [wrap64]
      · subst h1 h2; simp [wrap64, h3]
    · subst h1; simp [wrap64, h2]
  · simp [wrap64, h1]
theorem three_C (V : World) (p : Nat) (a b c : Int) (h0 : V.cell? ⟨p, 0, none⟩ = some (.int .i64 a)) (h1 : V.cell? ⟨p, 1, none⟩ = some (.int .i64 b)) (h2 : V.cell? ⟨p, 2, none⟩ = some (.int .i64 c)) : Kd.C (Kd.int .i64) V (some ⟨p, 0, none⟩) [a, b, c].length [a, b, c] := by
  refine ⟨rfl, by simp, fun _ => ⟨_, rfl, fun j x hx => ?_⟩⟩
  have one : ∀ (j : Nat) (v : Int), V.cell? ⟨p, j, none⟩ = some (.int .i64 v) → ∃ c : List Value, c.length = (Kd.int .i64).sz ∧ (Kd.int .i64).K V v c ∧ ∀ i u, c[i]? = some u → V.cell? ((⟨p, 0, none⟩ : Addr).add (j * (Kd.int .i64).sz + i)) = some u := by
    intro j v hv
    refine ⟨[.int .i64 v], rfl, rfl, fun i u hu => ?_⟩
    cases i with
    | zero =>
      have : Value.int .i64 v = u := by simpa using hu
      rw [← this, show (Kd.int .i64).sz = 1 from rfl, Nat.mul_one, Nat.add_zero]
      rw [show (⟨p, 0, none⟩ : Addr).add j = ⟨p, j, none⟩ by cases j <;> simp [Addr.add]]
      exact hv
    | succ i => simp at hu
  match j, hx with
  | 0, hx => have e : a = x := by simpa using hx
             exact e ▸ one 0 a h0
  | 1, hx => have e : b = x := by simpa using hx
             exact e ▸ one 1 b h1
  | 2, hx => have e : c = x := by simpa using hx
             exact e ▸ one 2 c h2
  | j + 3, hx => simp at hx
/-- How the sorting closure compares two shades: by the turn, the depth, the number. -/
def cfW (fr : Int) (x y : S48) : Int := or3 (cmpV (turnV fr x.f2) (turnV fr y.f2)) (cmpV x.f3 y.f3) (cmpV x.f0 y.f0)
theorem ltW (fr : Int) (x y : S48) : ltOf (cfW fr) x y = decide (turnV fr x.f2 < turnV fr y.f2 ∨ (turnV fr x.f2 = turnV fr y.f2 ∧ (x.f3 < y.f3 ∨ (x.f3 = y.f3 ∧ x.f0 < y.f0)))) := by
  unfold ltOf
  apply decide_eq_decide.mpr
  unfold cfW or3 cmpV
  generalize turnV fr x.f2 = a
  generalize turnV fr y.f2 = b
  repeat' split
  all_goals omega
theorem swoW (fr : Int) : Go.Sort.SWO (ltOf (cfW fr)) where
  irrefl x := by rw [ltW]; simp
  trans x y z h1 h2 := by
    rw [ltW] at *
    simp only [decide_eq_true_eq] at *
    omega
  ntrans x y z h1 h2 := by
    rw [ltW] at *
    simp only [decide_eq_false_iff_not] at *
    omega
instance : Inhabited S48 := ⟨z48⟩
def sortL (fr : Int) (xs : List (S48)) : List (S48) := (Go.Sort.pdq (ltOf (cfW fr)) xs.toArray 0 xs.toArray.size (Lib.bitLen xs.toArray.size) true true).toList
theorem sortL_both (fr : Int) (xs : List (S48)) : Go.Sort.PermIn 0 xs.toArray.size xs.toArray (sortL fr xs).toArray ∧ Go.Sort.SortedIn (ltOf (cfW fr)) 0 xs.toArray.size (sortL fr xs).toArray := by
  have h := Go.Sort.pdq_sorts (ltOf (cfW fr)) (swoW fr) xs.toArray 0 xs.toArray.size (Lib.bitLen xs.toArray.size) true true (Nat.zero_le _) (Nat.le_refl _) (Or.inl rfl)
  unfold sortL
  rw [Array.toArray_toList]
  exact h
theorem sortL_len (fr : Int) (xs : List (S48)) : (sortL fr xs).length = xs.length := by
  have h := (sortL_both fr xs).1.1
  simpa using h
def encSh (x : S48) : List Value := [.int .i64 x.f0, .string x.f1, .int .i64 x.f2, .int .i64 x.f3, .int .i64 x.f4]
set_option maxHeartbeats 2000000 in
set_option maxRecDepth 100000 in
theorem cmpW (fr : Int) (f0 : 0 ≤ fr) (f1 : fr ≤ 23) (B F : Nat) (W : World) (kf : W.cell? ⟨F, 0, none⟩ = some (.int .i64 fr)) (kg : W.cell? ⟨B, 0, none⟩ = some (.func (.func 57) #[] #[.pointer (some ⟨F, 0, none⟩)])) (x y : S48) :
    Calls Tryd.prog 60 (#[.agg (encSh x).toArray, .agg (encSh y).toArray] ++ #[.pointer (some ⟨B, 0, none⟩)]) W fun e w' => e = .returned (.int .i64 (cfW fr x y)) ∧ ∃ q os', w' = Go.Sort.grow (W.drewN q) os' := by
  have hT : ∀ (z0 : Int) (z1 : ByteArray) (z2 z3 z4 : Int) (V : World), V.cell? ⟨F, 0, none⟩ = some (.int .i64 fr) → Calls Tryd.prog 57 #[.agg #[.int .i64 z0, .string z1, .int .i64 z2, .int .i64 z3, .int .i64 z4], .pointer (some ⟨F, 0, none⟩)] V fun e w' => e = .returned (.int .i64 (turnV fr z2)) ∧ Gr V w' := by
    intro z0 z1 z2 z3 z4 V hV
    exact turnLit fr f0 f1 F V hV z0 z1 z2 z3 z4 (turnV fr z2) (by unfold turnV; with_reducible rfl)
  have hC : ∀ (a b : Int) (V : World), Calls Tryd.prog 52 #[.int .i64 a, .int .i64 b] V fun e w' => e = .returned (.int .i64 (cmpV a b)) ∧ Drawn0 V w' := fun a b V => cmp_Compare_int.calls a b (cmpV a b) V (cmpV_eq a b)
  have hO : ∀ (V : World) (p : Nat), V.cell? ⟨p, 0, none⟩ = some (.int .i64 (cmpV (turnV fr x.f2) (turnV fr y.f2))) → V.cell? ⟨p, 1, none⟩ = some (.int .i64 (cmpV x.f3 y.f3)) → V.cell? ⟨p, 2, none⟩ = some (.int .i64 (cmpV x.f0 y.f0)) → Calls Tryd.prog 61 #[.slice (some ⟨p, 0, none⟩) 3 3] V fun e w' => e = .returned (.int .i64 (cfW fr x y)) ∧ Drawn0 V w' := by
    intro V p h0 h1 h2
    have hc := three_C V p _ _ _ h0 h1 h2
    have he := or3_eq (cmpV (turnV fr x.f2) (turnV fr y.f2)) (cmpV x.f3 y.f3) (cmpV x.f0 y.f0)
    unfold cfW
    generalize cmpV (turnV fr x.f2) (turnV fr y.f2) = a at hc he ⊢
    generalize cmpV x.f3 y.f3 = b at hc he ⊢
    generalize cmpV x.f0 y.f0 = c at hc he ⊢
    generalize or3 a b c = r at he ⊢
    exact cmp_Or_int.calls 4 (some ⟨p, 0, none⟩) 3 [a, b, c] r V hc (Nat.le_refl _) he
  exact wheelLit cmpV (cfW fr x y) fr B F W kf kg x.f0 x.f1 x.f2 x.f3 x.f4 y.f0 y.f1 y.f2 y.f3 y.f4 hT hC hO
set_option maxHeartbeats 2000000 in
set_option maxRecDepth 100000 in
theorem sortW (fr : Int) (f0 : 0 ≤ fr) (f1 : fr ≤ 23) (B F : Nat) (W : World) (kf : W.cell? ⟨F, 0, none⟩ = some (.int .i64 fr)) (kg : W.cell? ⟨B, 0, none⟩ = some (.func (.func 57) #[] #[.pointer (some ⟨F, 0, none⟩)]))
    (base : Nat) (ok : Nat → Prop) (A : Option Addr) (n c : Nat) (xs : List (S48)) (hn : n = xs.length) (hR : Kd.R k48 48 W base ok (.slice A n c) xs) (hF : ∀ k, Value.ownBlock (.slice A n c) = some k → F ≠ k ∧ B ≠ k) (hb : base ≤ W.heap.size) (hl : xs.length < 4611686018427387904) :
    Calls Tryd.prog 59 #[.slice A n c, .func (.func 60) #[] #[.pointer (some ⟨B, 0, none⟩)]] W fun e w' => e = .returned (.tuple #[]) ∧ Kd.R k48 48 w' base ok (.slice A n c) (sortL fr xs) ∧ Below base W w' := by
  subst hn
  cases A with
  | none =>
    have hl : xs = [] := by
      obtain ⟨_, _, ⟨_, ho⟩, _⟩ := hR
      rcases ho with ⟨_, h0⟩ | ⟨_, _, _, hv, _⟩
      · exact List.eq_nil_of_length_eq_zero h0
      · cases hv
    subst hl
    have e : sortL fr [] = [] := List.eq_nil_of_length_eq_zero (sortL_len fr [])
    refine (AnyF.slices_SortFunc_none Tryd.sortShade none c _ W).mono ?_
    rintro e w' ⟨rfl, rfl⟩
    refine ⟨rfl, ?_, Below.refl _ _⟩
    rw [e]
    exact hR
  | some ad =>
    obtain ⟨g, rfl⟩ : ∃ g, ad = ⟨g, 0, none⟩ := by
      obtain ⟨_, _, ⟨_, ho⟩, _⟩ := hR
      rcases ho with ⟨hv, _⟩ | ⟨g, _, _, hv, _⟩
      · cases hv
      · injection hv with hv _ _
        injection hv with hv
        exact ⟨g, hv⟩
    have hM : ∀ (w : World) base ok x cs, k48.M w base ok x cs → cs = encSh x := fun _ _ _ _ _ h => k48_openM h
    have hM' : ∀ (w : World) base ok x, k48.M w base ok x (encSh x) := fun _ _ _ _ => k48_mkM _ _ _ _
    have hS := fun n os => R_sortedK (d := k48) (enc := encSh) (fun _ => rfl) hM hM' (sortL_len fr xs) hR n os
    obtain ⟨hg, hgs, hH, _⟩ := hS 0 #[]
    obtain ⟨nF, nB⟩ := hF g rfl
    have ltF := World.block_lt_of_cell? W _ kf
    have ltB := World.block_lt_of_cell? W _ kg
    have eg : ∀ args w, (callFunc 60 args).run Tryd.prog w = .ok (.enter 60 args) w := enters_of Tryd.func60 (by kernel_rfl) rfl
    have hc : CmpLays Tryd.prog 60 #[.pointer (some ⟨B, 0, none⟩)] encSh 5 (cfW fr) g 0 xs.toArray.size W := by
      intro m os dk hd x y
      have old : ∀ (b : Nat), b ≠ g → b < W.heap.size → (sortWorldK encSh 5 W g 0 m dk os).cell? ⟨b, 0, none⟩ = W.cell? ⟨b, 0, none⟩ := by
        intro b hne hlt
        unfold sortWorldK
        rw [Go.Sort.cell?_grow _ _ _ (by simpa [Go.Sort.putRowK, Go.Sort.putRow, Go.Sort.mapBlock, Go.Sort.ahead] using hlt)]
        exact Go.Sort.cell?_putRowK_other _ _ _ _ _ _ _ hne
      exact cmpW fr f0 f1 B F _ ((old F nF ltF).trans kf) ((old B nB ltB).trans kg) x y
    have h := AnyQ.slices_SortFunc_eq Tryd.sortShade 5 Tryd.isAgg48 Tryd.sizeOf48 encSh (fun _ => rfl) (fun x v hv => by simp [encSh] at hv; rcases hv with rfl | rfl | rfl | rfl | rfl <;> rfl) (cfW fr) (swoW fr) 60 #[.pointer (some ⟨B, 0, none⟩)] g 0 c xs.toArray W eg hc hH hgs (by simpa using hl)
    refine h.mono ?_
    rintro e w' ⟨rfl, n, os, rfl⟩
    have e2 : Go.Sort.pdq (ltOf (cfW fr)) xs.toArray 0 xs.toArray.size (Lib.bitLen xs.toArray.size) true true = (sortL fr xs).toArray := by unfold sortL; rw [Array.toArray_toList]
    rw [e2]
    exact ⟨rfl, (hS n os).2.2.2, below_sortedK _ hg hb⟩
end Go.Proofs.YtafokpklcmegaaaDoor.G
