-- Printed by a program of this session (wip/tools/gp.sh); Lean checks it.
import Derived.Test.YtceiacmieipleaaDoorGx3
import Derived.Test.YtceiacmieipleaaDoorShelfS
import Derived.Shelf.SlSortCmp.NoneTotal
import Derived.Sort.Grow
namespace Go.Proofs.YtceiacmieipleaaDoor.G
open Go.RowKit Go.Proofs.YtceiacmieipleaaDoorW.PrintWords Go.Proofs.YtceiacmieipleaaDoorW.PrintLast Go.Proofs.YtceiacmieipleaaDoorW.PrintMore
attribute [local go_sem] isSome_setCell_ max2_int min2_int max_two min_two max_three min_three max_four min_four   -- for this text's walks alone
set_option linter.unusedVariables false
set_option linter.unusedSimpArgs false

/-! ### A row of the call's own, sorted in place by the library: the row holds the sorted list -/
section
open Go.Sort Go.Shelf
theorem flat_get {α : Type} [Inhabited α] (enc : α → List Value) (k : Nat) (hk : ∀ x, (enc x).length = k) (xs : List α) (i c : Nat) (hi : i < xs.length) (hc : c < k) : (flatK enc k xs.toArray)[i * k + c]! = (enc xs[i])[c]! := by
  have hb : i * k + c < xs.toArray.size * k := by
    have : (i + 1) * k ≤ xs.length * k := Nat.mul_le_mul_right k hi
    rw [Nat.add_mul, Nat.one_mul] at this
    simp only [List.size_toArray]
    omega
  have hk0 : 0 < k := by omega
  rw [get_flatK enc k _ _ hb, show (i * k + c) / k = i by rw [Nat.add_comm, Nat.add_mul_div_right _ _ hk0, Nat.div_eq_of_lt hc, Nat.zero_add], show (i * k + c) % k = c by rw [Nat.add_comm, Nat.add_mul_mod_self_right, Nat.mod_eq_of_lt hc]]
  rw [getElem!_pos xs.toArray i (by simpa using hi)]
  simp
theorem holdsK_own {α : Type} [Inhabited α] {enc : α → List Value} {k : Nat} (hk : ∀ x, (enc x).length = k) {w : World} {g : Nat} {cur : Array Value} {e : TypeId} {xs : List α} (hb : w.heap[g]? = some (.cells cur e (0, 0))) (hr : Reps (fun x c => c = enc x) k xs (cur.toList.take (xs.length * k))) : HoldsK enc k w g 0 xs.toArray := by
  intro j hj
  have hj' : j < xs.length * k := by simpa using hj
  refine ⟨?_, by simp [World.frozen?, hb]⟩
  have hk0 : 0 < k := by
    rcases Nat.eq_zero_or_pos k with h0 | h0
    · rw [h0] at hj'; omega
    · exact h0
  have hi : j / k < xs.length := (Nat.div_lt_iff_lt_mul hk0).mpr hj'
  have hm : j % k < k := Nat.mod_lt _ hk0
  have h1 := hr.2 (j / k) xs[j / k] (List.getElem?_eq_getElem hi)
  have h2 := congrArg (fun l => l[j % k]?) h1
  simp only [List.getElem?_take, if_pos hm, List.getElem?_drop] at h2
  rw [Nat.mul_comm (j / k) k, Nat.div_add_mod, if_pos hj'] at h2
  have h3 := flat_get enc k hk xs (j / k) (j % k) hi hm
  rw [Nat.mul_comm (j / k) k, Nat.div_add_mod] at h3
  show w.cell? ⟨g, 0 + j, none⟩ = some (flatK enc k xs.toArray)[j]!
  rw [h3]
  simp only [World.cell?, hb, Nat.zero_add]
  simp only [Option.isSome_none, Bool.false_eq_true, if_false]
  rw [← Array.getElem?_toList, h2]
  rw [getElem!_pos (enc xs[j / k]) (j % k) (by rw [hk]; exact hm)]
  exact List.getElem?_eq_getElem _
theorem heap_sortedK {α : Type} [Inhabited α] {enc : α → List Value} {k : Nat} {w : World} {g n : Nat} {os : Array Obj} {cur : Array Value} {e : TypeId} {fr : Nat × Nat} (d : Array α) (hb : w.heap[g]? = some (.cells cur e fr)) :
    (sortWorldK enc k w g 0 n d os).heap[g]? = some (.cells (putCells id 0 (flatK enc k d) cur) e fr) := by
  have hg : g < w.heap.size := (Array.getElem?_eq_some_iff.1 hb).1
  unfold sortWorldK putRowK
  rw [heap_grow_old _ _ (by simpa using hg)]
  simp [putRow, mapBlock, Sort.ahead, Array.getElem?_modify, hb, onCells]
theorem below_sortedK {α : Type} [Inhabited α] {enc : α → List Value} {k : Nat} {w : World} {g n base : Nat} {os : Array Obj} (d : Array α) (hg : base ≤ g) (hw : base ≤ w.heap.size) : Below base w (sortWorldK enc k w g 0 n d os) := by
  refine ⟨rfl, rfl, rfl, ?_, fun j hj => ?_⟩
  · simp [sortWorldK, putRowK, grow, putRow, mapBlock, Sort.ahead]
  · unfold sortWorldK putRowK
    rw [heap_grow_old _ _ (by simp [putRow, mapBlock, Sort.ahead]; omega)]
    have : g ≠ j := by omega
    simp [putRow, mapBlock, Sort.ahead, Array.getElem?_modify, this]
theorem reps_sortedK {α : Type} [Inhabited α] {enc : α → List Value} {k : Nat} (hk : ∀ x, (enc x).length = k) (cur : Array Value) (ys : List α) (h : ys.length * k ≤ cur.size) : Reps (fun x c => c = enc x) k ys ((putCells id 0 (flatK enc k ys.toArray) cur).toList.take (ys.length * k)) := by
  refine ⟨?_, fun j p hp => ?_⟩
  · rw [List.length_take, Array.length_toList]
    simp [putCells]
    omega
  · obtain ⟨hj, rfl⟩ := List.getElem?_eq_some_iff.1 hp
    apply List.ext_getElem?
    intro q
    rw [List.getElem?_take, List.getElem?_drop, List.getElem?_take]
    by_cases hq : q < k
    · have hb : j * k + q < ys.length * k := by
        have : (j + 1) * k ≤ ys.length * k := Nat.mul_le_mul_right k hj
        rw [Nat.add_mul, Nat.one_mul] at this
        omega
      rw [if_pos hq, if_pos hb, Array.getElem?_toList]
      have h3 := flat_get enc k hk ys j q hj hq
      rw [List.getElem?_eq_getElem (by rw [hk]; exact hq)]
      rw [getElem!_pos (enc ys[j]) q (by rw [hk]; exact hq)] at h3
      rw [← h3]
      have hs : (flatK enc k ys.toArray).size = ys.length * k := by simp
      simp [putCells, hs, hb, show j * k + q < cur.size by omega]
    · rw [if_neg hq, List.getElem?_eq_none (by rw [hk]; omega)]
/-- The slice of the call's own, behind the sort. -/
theorem R_sortedK {α : Type} [Inhabited α] {d : Kd α} {e : Nat} {enc : α → List Value} (hk : ∀ x, (enc x).length = d.sz) (hM : ∀ (w : World) base ok x cs, d.M w base ok x cs → cs = enc x) (hM' : ∀ (w : World) base ok x, d.M w base ok x (enc x)) {w : World} {base : Nat} {ok : Nat → Prop} {g cap : Nat} {xs ys : List α} (hl : ys.length = xs.length)
    (h : d.R e w base ok (.slice (some ⟨g, 0, none⟩) xs.length cap) xs) (n : Nat) (os : Array Obj) :
    base ≤ g ∧ g < w.heap.size ∧ HoldsK enc d.sz w g 0 xs.toArray ∧ d.R e (sortWorldK enc d.sz w g 0 n ys.toArray os) base ok (.slice (some ⟨g, 0, none⟩) xs.length cap) ys := by
  obtain ⟨h0, inner, ⟨hi, ho⟩, hr⟩ := h
  rcases ho with ⟨hv, _⟩ | ⟨g', cap', cur, hv, hg, hh, h1, h2, h3, h4⟩
  · cases hv
  · injection hv with hv hv1 hv2
    injection hv with hv
    injection hv with hv _ _
    subst hv hv2
    have hr2 : Reps (fun x c => c = enc x) d.sz xs inner := hr.imp_ (fun _ _ hp => hM _ _ _ _ _ hp)
    rw [← h4] at hr2
    have hc : ys.length * d.sz ≤ cur.size := by rw [h3, hl]; exact Nat.mul_le_mul_right _ h1
    refine ⟨hg, (Array.getElem?_eq_some_iff.1 hh).1, holdsK_own hk hh hr2, h0, _, ⟨?_, .inr ⟨g, cap, _, by rw [hl], hg, heap_sortedK _ hh, by omega, h2, by simp [putCells, h3], rfl⟩⟩, (reps_sortedK hk cur ys hc).imp_ (fun x c hp => by rw [hp]; exact hM' _ _ _ _)⟩
    exact (reps_sortedK hk cur ys hc).1
end
def Gr (W w' : World) : Prop := ∃ q os, w' = Go.Sort.grow (W.drewN q) os
theorem drewN_drewN_ (w : World) (a b : Nat) : (w.drewN a).drewN b = w.drewN (a + b) := by simp [World.drewN, Nat.add_assoc]
theorem gr_refl (W : World) : Gr W W := ⟨0, #[], by simp [Go.Sort.grow]; rfl⟩
theorem gr_drewN {W w : World} (h : Gr W w) (n : Nat) : Gr W (w.drewN n) := by
  obtain ⟨q, os, rfl⟩ := h
  exact ⟨q + n, os, by rw [← drewN_drewN_]; rfl⟩
theorem gr_drew {W w : World} (h : Gr W w) : Gr W w.drew := gr_drewN h 1
theorem gr_alloc {W w : World} (h : Gr W w) (o : Obj) : Gr W (w.alloc o) := by
  obtain ⟨q, os, rfl⟩ := h
  exact ⟨q, os ++ #[o], by rw [Go.Sort.alloc_eq_grow, Go.Sort.grow_grow]⟩
def cmpS (a b : ByteArray) : Int := if Op.bytesLess a.toList b.toList = true then -1 else if Op.bytesLess b.toList a.toList = true then 1 else 0
theorem cmpS_eq (a b : ByteArray) : cmp_Compare_string.f a b = some (cmpS a b) := by
  unfold cmp_Compare_string.f cmp_isNaN_string.f cmpS
  have h1 : (a.toList != a.toList) = false := by simp
  have h2 : (b.toList != b.toList) = false := by simp
  rw [h1, h2]
  simp only [Option.bind_some, Bool.false_eq_true, if_false]
  split
  · rfl
  · split <;> rfl
/-- How the sorting closure compares two parts: by the stuff. -/
def cfP (x y : S36) : Int := cmpS x.f0 y.f0
theorem ltP (x y : S36) : ltOf cfP x y = decide (x.f0.toList < y.f0.toList) := by
  unfold ltOf cfP cmpS
  rw [bytesLess_eq, bytesLess_eq]
  by_cases c : x.f0.toList < y.f0.toList
  · simp [c]
  · by_cases k : y.f0.toList < x.f0.toList <;> simp [c, k]
theorem swoP : Go.Sort.SWO (ltOf cfP) where
  irrefl x := by rw [ltP]; simp [List.lt_irrefl]
  trans x y z h1 h2 := by
    rw [ltP, decide_eq_true_eq] at *
    exact List.lt_trans h1 h2
  ntrans x y z h1 h2 := by
    rw [ltP, decide_eq_false_iff_not, List.not_lt] at *
    exact List.le_trans h2 h1
instance : Inhabited S36 := ⟨z36⟩
def sortP (xs : List (S36)) : List (S36) := (Go.Sort.pdq (ltOf cfP) xs.toArray 0 xs.toArray.size (Lib.bitLen xs.toArray.size) true true).toList
theorem sortP_both (xs : List (S36)) : Go.Sort.PermIn 0 xs.toArray.size xs.toArray (sortP xs).toArray ∧ Go.Sort.SortedIn (ltOf cfP) 0 xs.toArray.size (sortP xs).toArray := by
  have h := Go.Sort.pdq_sorts (ltOf cfP) swoP xs.toArray 0 xs.toArray.size (Lib.bitLen xs.toArray.size) true true (Nat.zero_le _) (Nat.le_refl _) (Or.inl rfl)
  unfold sortP
  rw [Array.toArray_toList]
  exact h
theorem sortP_len (xs : List (S36)) : (sortP xs).length = xs.length := by
  have h := (sortP_both xs).1.1
  simpa using h
def encP (x : S36) : List Value := [.string x.f0, .int .i64 x.f1]
set_option maxHeartbeats 2000000 in
set_option maxRecDepth 100000 in
theorem partLit (x0 y0 : ByteArray) (x1 y1 r : Int) (W : World) (h : cmp_Compare_string.f x0 y0 = some r) :
    Calls Tryd.prog 20 #[.agg #[.string x0, .int .i64 x1], .agg #[.string y0, .int .i64 y1]] W fun e w' => e = .returned (.int .i64 r) ∧ Gr W w' := by
  have hu_ := Tryd.underlying36
  have HC := Aside0.mk (fun V => cmp_Compare_string.calls x0 y0 r V h)
  clear h
  go_enter Tryd.func20, Tryd.ntmps20
  go_wp2_with (go_at_call 21; refine (HC.out _).mono ?_; rintro e w3 ⟨rfl, n3, rfl⟩)
  go_ret
  exact ⟨rfl, by repeat (first | exact gr_refl _ | apply gr_alloc | apply gr_drewN | apply gr_drew)⟩
set_option maxHeartbeats 2000000 in
set_option maxRecDepth 100000 in
/-- The library's sort at a row of parts of the call's own. -/
theorem sortPart (W : World) (base : Nat) (ok : Nat → Prop) (A : Option Addr) (n c : Nat) (xs : List (S36)) (hn : n = xs.length) (hR : Kd.R k36 36 W base ok (.slice A n c) xs) (hb : base ≤ W.heap.size) (hl : xs.length < 4611686018427387904) :
    Calls Tryd.prog 19 #[.slice A n c, .func (.func 20) #[] #[]] W fun e w' => e = .returned (.tuple #[]) ∧ Kd.R k36 36 w' base ok (.slice A n c) (sortP xs) ∧ Below base W w' ∧ (∀ k, k < W.heap.size → some k ≠ (Value.slice A n c).ownBlock → w'.heap[k]? = W.heap[k]?) := by
  subst hn
  cases A with
  | none =>
    have hl : xs = [] := by
      obtain ⟨_, _, ⟨_, ho⟩, _⟩ := hR
      rcases ho with ⟨_, h0⟩ | ⟨_, _, _, hv, _⟩
      · exact List.eq_nil_of_length_eq_zero h0
      · cases hv
    subst hl
    have e : sortP [] = [] := List.eq_nil_of_length_eq_zero (sortP_len [])
    refine (AnyF.slices_SortFunc_none Tryd.sortPart none c _ W).mono ?_
    rintro e w' ⟨rfl, rfl⟩
    refine ⟨rfl, ?_, Below.refl _ _, fun _ _ _ => rfl⟩
    rw [e]
    exact hR
  | some ad =>
    obtain ⟨g, rfl⟩ : ∃ g, ad = ⟨g, 0, none⟩ := by
      obtain ⟨_, _, ⟨_, ho⟩, _⟩ := hR
      rcases ho with ⟨hv, _⟩ | ⟨g, _, _, hv, _⟩
      · cases hv
      · injection hv with hv _ _
        injection hv with hv
        exact ⟨g, hv⟩
    have hM : ∀ (w : World) base ok x cs, k36.M w base ok x cs → cs = encP x := fun _ _ _ _ _ h => k36_openM h
    have hM' : ∀ (w : World) base ok x, k36.M w base ok x (encP x) := fun _ _ _ _ => k36_mkM _ _ _ _
    have hS := fun n os => R_sortedK (d := k36) (enc := encP) (fun _ => rfl) hM hM' (sortP_len xs) hR n os
    obtain ⟨hg, hgs, hH, _⟩ := hS 0 #[]
    have eg : ∀ args w, (callFunc 20 args).run Tryd.prog w = .ok (.enter 20 args) w := enters_of Tryd.func20 (by kernel_rfl) rfl
    have hc : CmpLays Tryd.prog 20 #[] encP 2 cfP g 0 xs.toArray.size W := fun m os dk hd x y => partLit x.f0 y.f0 x.f1 y.f1 (cfP x y) _ (cmpS_eq _ _)
    have h := AnyQ.slices_SortFunc_eq Tryd.sortPart 2 Tryd.isAgg36 Tryd.sizeOf36 encP (fun _ => rfl) (fun x v hv => by simp [encP] at hv; rcases hv with rfl | rfl <;> rfl) cfP swoP 20 #[] g 0 c xs.toArray W eg hc hH hgs (by simpa using hl)
    refine h.mono ?_
    rintro e w' ⟨rfl, n, os, rfl⟩
    have e2 : Go.Sort.pdq (ltOf cfP) xs.toArray 0 xs.toArray.size (Lib.bitLen xs.toArray.size) true true = (sortP xs).toArray := by unfold sortP; rw [Array.toArray_toList]
    rw [e2]
    refine ⟨rfl, (hS n os).2.2.2, below_sortedK _ hg hb, fun k hk hne => ?_⟩
    have hne' : g ≠ k := fun e => hne (by rw [← e]; rfl)
    unfold sortWorldK Go.Sort.putRowK
    rw [Go.Sort.heap_grow_old _ _ (by simpa [Go.Sort.putRow, Go.Sort.mapBlock, Go.Sort.ahead] using hk)]
    simp [Go.Sort.putRow, Go.Sort.mapBlock, Go.Sort.ahead, Array.getElem?_modify, hne']
end Go.Proofs.YtceiacmieipleaaDoor.G
