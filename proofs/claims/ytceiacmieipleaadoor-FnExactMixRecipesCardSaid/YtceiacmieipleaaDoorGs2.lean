-- Printed by a program of this session (wip/tools/gp.sh); Lean checks it.
import Derived.Test.YtceiacmieipleaaDoorGx1
import Derived.Test.YtceiacmieipleaaDoorGx6
import Derived.Test.YtceiacmieipleaaDoorGx7
import Derived.Deep.RegionLaw
import Derived.Sort.Walk0
namespace Go.Proofs.YtceiacmieipleaaDoor.G
open Go.RowKit Go.Proofs.YtceiacmieipleaaDoorW.PrintWords Go.Proofs.YtceiacmieipleaaDoorW.PrintLast Go.Proofs.YtceiacmieipleaaDoorW.PrintMore
attribute [local go_sem] isSome_setCell_ max2_int min2_int max_two min_two max_three min_three max_four min_four   -- for this text's walks alone
set_option linter.unusedVariables false
set_option linter.unusedSimpArgs false

theorem drew_heap_ (w : World) : w.drew.heap = w.heap := rfl
theorem size_alloc_ (w : World) (o : Obj) : (w.alloc o).heap.size = w.heap.size + 1 := by
  unfold World.alloc
  exact Array.size_push ..
theorem get_alloc_ (w : World) (o : Obj) {k : Nat} (h : k = w.heap.size) : (w.alloc o).heap[k]? = some o := by
  subst h
  unfold World.alloc
  simp only [Array.getElem?_push, if_true]
theorem get_old_ (w : World) (o : Obj) {k : Nat} (h : k ≠ w.heap.size) : (w.alloc o).heap[k]? = w.heap[k]? := by
  unfold World.alloc
  simp only [Array.getElem?_push, if_neg h]
theorem at_of_ {w : World} {j k : Nat} {o : Obj} (h : w.heap[k]? = some o) (e : j = k) : w.heap[j]? = some o := by
  subst e
  exact h
theorem own_ne_ {g o n c k : Nat} (h : k ≠ g) : some k ≠ (Value.slice (some ⟨g, o, none⟩) n c).ownBlock := by
  intro e
  exact h (by simpa [Value.ownBlock] using e)
theorem bytes_ne_ {a b : List UInt8} (h : Op.bytesLess b a = true) : (a == b) = false := by
  refine beq_eq_false_iff_ne.mpr ?_
  rintro rfl
  rw [bytesLess_eq, decide_eq_true_eq] at h
  exact List.lt_irrefl _ h
theorem less_asymm_ {a b : List UInt8} (h : Op.bytesLess b a = true) : Op.bytesLess a b = false := by
  rw [bytesLess_eq, decide_eq_true_eq] at h
  rw [bytesLess_eq, decide_eq_false_iff_not]
  exact fun k => List.lt_irrefl _ (List.lt_trans h k)
theorem le_total_ {a b : List UInt8} (h : Op.bytesLess b a = false) : (Op.bytesLess a b || a == b) = true := by
  rw [bytesLess_eq, decide_eq_false_iff_not, List.not_lt] at h
  rw [bytesLess_eq]
  by_cases k : a < b
  · simp [k]
  · rw [List.not_lt] at k
    simp [List.le_antisymm h k]
theorem le_total2_ {a b : List UInt8} (h : Op.bytesLess b a = false) : ((!Op.bytesLess a b) && !(a == b)) = false := by
  have := le_total_ h
  cases h1 : Op.bytesLess a b <;> cases h2 : (a == b) <;> simp_all
theorem R_blk {α : Type} {d : Kd α} {e : Nat} {w : World} {base : Nat} {ok : Nat → Prop} {g n c : Nat} {xs : List α} {inner : List Value} (hb : base ≤ g) (h : w.heap[g]? = some (.cells inner.toArray e (0, 0))) (hn : n = xs.length) (hc : c = n) (hr : Reps (d.M w base (fun _ => False)) d.sz xs inner) (hok : ok g) (hl : n ≤ 1000) : Kd.R d e w base ok (.slice (some ⟨g, 0, none⟩) n c) xs := by
  subst hn hc
  refine ⟨fun k hk => ?_, inner, ⟨hr.1, .inr ⟨g, _, inner.toArray, rfl, hb, h, Nat.le_refl _, by simp only [maxLen]; omega, by simpa using hr.1, ?_⟩⟩, hr.imp_ (fun _ _ hp => d.M_mono (fun _ h => h.elim) hp)⟩
  · have : g = k := by simpa [Value.ownBlock] using hk
    exact this ▸ hok
  · rw [← hr.1]
    simp
theorem exN {d : Kd S36} {e : Nat} {w' : World} {base : Nat} {ok : Nat → Prop} {v : Value} {xs : List S36} (h : Kd.R d e w' base ok v xs) : ∃ N, N = w'.heap.size ∧ Kd.R d e w' base (fun k_ => ok k_ ∧ k_ < N) v xs := ⟨_, rfl, Kd.R_mono (Kd.R_bound h) (fun _ hk => ⟨hk.1, hk.2.2.1⟩)⟩
theorem ltN {d : Kd S36} {e : Nat} {w' : World} {base N : Nat} {ok : Nat → Prop} {v : Value} {xs : List S36} (h : Kd.R d e w' base ok v xs) (hN : N = w'.heap.size) : Kd.R d e w' base (fun k_ => ok k_ ∧ k_ < N) v xs := Kd.R_mono (Kd.R_bound h) (fun _ hk => ⟨hk.1, hN ▸ hk.2.2.1⟩)
theorem low_ne {d : Kd S36} {w : World} {base N k : Nat} {v : Value} {xs : List S36} (h : Kd.R d 36 w base (fun k_ => N ≤ k_) v xs) (hk : k < N) : some k ≠ v.ownBlock := fun e => by
  have := h.1 k e.symm
  omega
theorem one_reps (w : World) (base : Nat) (p : S36) : Reps (k36.M w base (fun _ => False)) k36.sz [p] [.string p.f0, .int .i64 p.f1] := by
  have h := Reps.snoc (Reps.none (k36.M w base (fun _ => False)) k36.sz) (k36_mkM w base (fun _ => False) p) rfl
  exact h
/-! ### spec_MixRecipes: function 5 -/
mutual
def spec_MixRecipes.j0 : Nat → List (S36) → List (S36) → Int → Bool → Option ((List (S36)) × Bool)
  | 0, _, _, _, _ => none
  | k + 1, x0, x1, x2, x26 => if x26 = true then (some ((([] : List (S36))), false)) else ((some (([] : List (S36)) : List (S36))).bind fun y149 => (if y149.length + x0.length < 5864062014805 then ((some (y149 ++ x0 : List (S36))).bind fun y152 => (if y152.length + x1.length < 5864062014805 then (spec_MixRecipes.l0 k x0 x1 x2 (([] : List (S36))) (y152 ++ x1) 0) else (none))) else (none)))
def spec_MixRecipes.l0 : Nat → List (S36) → List (S36) → Int → List (S36) → List (S36) → Int → Option ((List (S36)) × Bool)
  | 0, _, _, _, _, _, _ => none
  | k + 1, x0, x1, x2, x8, x9, x10 => if x10 < (x9.length : Int) then (if 0 ≤ x10 then ((spec_l7Of.f k x0 ((rd_T36 x9 x10).f0)).bind fun t163 => ((spec_l7Of.f k x1 ((rd_T36 x9 x10).f0)).bind fun t164 => (if (wrap64 (Int.tdiv (wrap64 ((wrap64 ((wrap64 (t163 * (wrap64 (100 - x2)))) + (wrap64 (t164 * x2)))) + 99)) 100)) = 0 then (spec_MixRecipes.j2 k x0 x1 x2 x8 x9 x10 ((rd_T36 x9 x10).f0) (wrap64 (Int.tdiv (wrap64 ((wrap64 ((wrap64 (t163 * (wrap64 (100 - x2)))) + (wrap64 (t164 * x2)))) + 99)) 100)) true) else ((spec_l7Of.f k x8 ((rd_T36 x9 x10).f0)).bind fun t165 => (spec_MixRecipes.j2 k x0 x1 x2 x8 x9 x10 ((rd_T36 x9 x10).f0) (wrap64 (Int.tdiv (wrap64 ((wrap64 ((wrap64 (t163 * (wrap64 (100 - x2)))) + (wrap64 (t164 * x2)))) + 99)) 100)) (decide (t165 > 0))))))) else (none)) else ((spec_l7Good.f k x8).bind fun t158 => (if t158 = true then (some (x8, true)) else (some ((([] : List (S36))), false))))
def spec_MixRecipes.j2 : Nat → List (S36) → List (S36) → Int → List (S36) → List (S36) → Int → ByteArray → Int → Bool → Option ((List (S36)) × Bool)
  | 0, _, _, _, _, _, _, _, _, _ => none
  | k + 1, x0, x1, x2, x8, x9, x10, x11, x12, x66 => if x66 = true then (spec_MixRecipes.l0 k x0 x1 x2 x8 x9 (wrap64 (x10 + 1))) else (spec_MixRecipes.l1 k x0 x1 x2 x8 x9 x10 x11 x12 (x8.length : Int))
def spec_MixRecipes.l1 : Nat → List (S36) → List (S36) → Int → List (S36) → List (S36) → Int → ByteArray → Int → Int → Option ((List (S36)) × Bool)
  | 0, _, _, _, _, _, _, _, _, _ => none
  | k + 1, x0, x1, x2, x8, x9, x10, x11, x12, x13 => if x13 > 0 then (if 0 ≤ (wrap64 (x13 - 1)) then (if (wrap64 (x13 - 1)) < (x8.length : Int) then (if (Op.bytesLess x11.toList (((rd_T36 x8 (wrap64 (x13 - 1))).f0).toList)) = true then (spec_MixRecipes.l1 k x0 x1 x2 x8 x9 x10 x11 x12 (wrap64 (x13 - 1))) else (if 0 ≤ x13 then (if x13 ≤ (x8.length : Int) then ((some (x8.take (x13 : Int).toNat : List (S36))).bind fun y167 => ((some (x8.drop (x13 : Int).toNat : List (S36))).bind fun y171 => ((some (([] : List (S36)) : List (S36))).bind fun y175 => (if y175.length + y167.length < 5864062014805 then ((some (y175 ++ y167 : List (S36))).bind fun y178 => (if y178.length < 5864062014805 then ((some (y178 ++ [(⟨x11, x12⟩ : S36)] : List (S36))).bind fun y181 => (if y181.length + y171.length < 5864062014805 then (spec_MixRecipes.l0 k x0 x1 x2 (y181 ++ y171) x9 (wrap64 (x10 + 1))) else (none))) else (none))) else (none))))) else (none)) else (none))) else (none)) else (none)) else (if 0 ≤ x13 then (if x13 ≤ (x8.length : Int) then ((some (x8.take (x13 : Int).toNat : List (S36))).bind fun y187 => ((some (x8.drop (x13 : Int).toNat : List (S36))).bind fun y191 => ((some (([] : List (S36)) : List (S36))).bind fun y195 => (if y195.length + y187.length < 5864062014805 then ((some (y195 ++ y187 : List (S36))).bind fun y198 => (if y198.length < 5864062014805 then ((some (y198 ++ [(⟨x11, x12⟩ : S36)] : List (S36))).bind fun y201 => (if y201.length + y191.length < 5864062014805 then (spec_MixRecipes.l0 k x0 x1 x2 (y201 ++ y191) x9 (wrap64 (x10 + 1))) else (none))) else (none))) else (none))))) else (none)) else (none))
end
def spec_MixRecipes.f (k : Nat) (l0 : List (S36)) (l1 : List (S36)) (a2 : Int) : Option ((List (S36)) × Bool) := (spec_l7Good.f k l0).bind fun t140 => (if t140 = true then ((spec_l7Good.f k l1).bind fun t141 => (if t141 = true then ((spec_l1In.f a2 0 100).bind fun t142 => (spec_MixRecipes.j0 k l0 l1 a2 (!t142))) else (spec_MixRecipes.j0 k l0 l1 a2 true))) else (spec_MixRecipes.j0 k l0 l1 a2 true))
theorem spec_MixRecipes.mono_l : ∀ k, (∀ y0 y1 y2 y3, LeO (spec_MixRecipes.j0 k y0 y1 y2 y3) (spec_MixRecipes.j0 (k + 1) y0 y1 y2 y3)) ∧ (∀ y0 y1 y2 y3 y4 y5, LeO (spec_MixRecipes.l0 k y0 y1 y2 y3 y4 y5) (spec_MixRecipes.l0 (k + 1) y0 y1 y2 y3 y4 y5)) ∧ (∀ y0 y1 y2 y3 y4 y5 y6 y7 y8, LeO (spec_MixRecipes.j2 k y0 y1 y2 y3 y4 y5 y6 y7 y8) (spec_MixRecipes.j2 (k + 1) y0 y1 y2 y3 y4 y5 y6 y7 y8)) ∧ (∀ y0 y1 y2 y3 y4 y5 y6 y7 y8, LeO (spec_MixRecipes.l1 k y0 y1 y2 y3 y4 y5 y6 y7 y8) (spec_MixRecipes.l1 (k + 1) y0 y1 y2 y3 y4 y5 y6 y7 y8))
  | 0 => ⟨fun _ _ _ _ r h => by simp [spec_MixRecipes.j0] at h, fun _ _ _ _ _ _ r h => by simp [spec_MixRecipes.l0] at h, fun _ _ _ _ _ _ _ _ _ r h => by simp [spec_MixRecipes.j2] at h, fun _ _ _ _ _ _ _ _ _ r h => by simp [spec_MixRecipes.l1] at h⟩
  | k + 1 => by
    obtain ⟨ih0, ih1, ih2, ih3⟩ := spec_MixRecipes.mono_l k
    refine ⟨?_, ?_, ?_, ?_⟩
    · intro y0 y1 y2 y3
      unfold spec_MixRecipes.j0
      repeat' first
      | (with_reducible exact ih0 _ _ _ _)
      | (with_reducible exact ih1 _ _ _ _ _ _)
      | (with_reducible exact ih2 _ _ _ _ _ _ _ _ _)
      | (with_reducible exact ih3 _ _ _ _ _ _ _ _ _)
      | (with_reducible exact spec_l7Good.mono _ _)
      | (with_reducible exact spec_l7Of.mono _ _ _)
      | (with_reducible exact LeO.refl _)
      | (with_reducible exact LeO.none _)
      | (with_reducible refine LeO.ite ?_ ?_)
      | (with_reducible refine LeO.bind ?_ (fun _ => ?_))
      | exact ih0 _ _ _ _
      | exact ih1 _ _ _ _ _ _
      | exact ih2 _ _ _ _ _ _ _ _ _
      | exact ih3 _ _ _ _ _ _ _ _ _
      | exact spec_l7Good.mono _ _
      | exact spec_l7Of.mono _ _ _
      | exact LeO.none _
      | refine LeO.ite ?_ ?_
      | refine LeO.bind ?_ (fun _ => ?_)
    · intro y0 y1 y2 y3 y4 y5
      unfold spec_MixRecipes.l0
      repeat' first
      | (with_reducible exact ih0 _ _ _ _)
      | (with_reducible exact ih1 _ _ _ _ _ _)
      | (with_reducible exact ih2 _ _ _ _ _ _ _ _ _)
      | (with_reducible exact ih3 _ _ _ _ _ _ _ _ _)
      | (with_reducible exact spec_l7Good.mono _ _)
      | (with_reducible exact spec_l7Of.mono _ _ _)
      | (with_reducible exact LeO.refl _)
      | (with_reducible exact LeO.none _)
      | (with_reducible refine LeO.ite ?_ ?_)
      | (with_reducible refine LeO.bind ?_ (fun _ => ?_))
      | exact ih0 _ _ _ _
      | exact ih1 _ _ _ _ _ _
      | exact ih2 _ _ _ _ _ _ _ _ _
      | exact ih3 _ _ _ _ _ _ _ _ _
      | exact spec_l7Good.mono _ _
      | exact spec_l7Of.mono _ _ _
      | exact LeO.none _
      | refine LeO.ite ?_ ?_
      | refine LeO.bind ?_ (fun _ => ?_)
    · intro y0 y1 y2 y3 y4 y5 y6 y7 y8
      unfold spec_MixRecipes.j2
      repeat' first
      | (with_reducible exact ih0 _ _ _ _)
      | (with_reducible exact ih1 _ _ _ _ _ _)
      | (with_reducible exact ih2 _ _ _ _ _ _ _ _ _)
      | (with_reducible exact ih3 _ _ _ _ _ _ _ _ _)
      | (with_reducible exact spec_l7Good.mono _ _)
      | (with_reducible exact spec_l7Of.mono _ _ _)
      | (with_reducible exact LeO.refl _)
      | (with_reducible exact LeO.none _)
      | (with_reducible refine LeO.ite ?_ ?_)
      | (with_reducible refine LeO.bind ?_ (fun _ => ?_))
      | exact ih0 _ _ _ _
      | exact ih1 _ _ _ _ _ _
      | exact ih2 _ _ _ _ _ _ _ _ _
      | exact ih3 _ _ _ _ _ _ _ _ _
      | exact spec_l7Good.mono _ _
      | exact spec_l7Of.mono _ _ _
      | exact LeO.none _
      | refine LeO.ite ?_ ?_
      | refine LeO.bind ?_ (fun _ => ?_)
    · intro y0 y1 y2 y3 y4 y5 y6 y7 y8
      unfold spec_MixRecipes.l1
      repeat' first
      | (with_reducible exact ih0 _ _ _ _)
      | (with_reducible exact ih1 _ _ _ _ _ _)
      | (with_reducible exact ih2 _ _ _ _ _ _ _ _ _)
      | (with_reducible exact ih3 _ _ _ _ _ _ _ _ _)
      | (with_reducible exact spec_l7Good.mono _ _)
      | (with_reducible exact spec_l7Of.mono _ _ _)
      | (with_reducible exact LeO.refl _)
      | (with_reducible exact LeO.none _)
      | (with_reducible refine LeO.ite ?_ ?_)
      | (with_reducible refine LeO.bind ?_ (fun _ => ?_))
      | exact ih0 _ _ _ _
      | exact ih1 _ _ _ _ _ _
      | exact ih2 _ _ _ _ _ _ _ _ _
      | exact ih3 _ _ _ _ _ _ _ _ _
      | exact spec_l7Good.mono _ _
      | exact spec_l7Of.mono _ _ _
      | exact LeO.none _
      | refine LeO.ite ?_ ?_
      | refine LeO.bind ?_ (fun _ => ?_)
theorem spec_MixRecipes.mono : ∀ a0 a1 a2 k, LeO (spec_MixRecipes.f k a0 a1 a2) (spec_MixRecipes.f (k + 1) a0 a1 a2) := by
  intro a0 a1 a2 k
  obtain ⟨ih0, ih1, ih2, ih3⟩ := spec_MixRecipes.mono_l k
  unfold spec_MixRecipes.f
  repeat' first
      | (with_reducible exact ih0 _ _ _ _)
      | (with_reducible exact ih1 _ _ _ _ _ _)
      | (with_reducible exact ih2 _ _ _ _ _ _ _ _ _)
      | (with_reducible exact ih3 _ _ _ _ _ _ _ _ _)
      | (with_reducible exact spec_l7Good.mono _ _)
      | (with_reducible exact spec_l7Of.mono _ _ _)
      | (with_reducible exact LeO.refl _)
      | (with_reducible exact LeO.none _)
      | (with_reducible refine LeO.ite ?_ ?_)
      | (with_reducible refine LeO.bind ?_ (fun _ => ?_))
      | exact ih0 _ _ _ _
      | exact ih1 _ _ _ _ _ _
      | exact ih2 _ _ _ _ _ _ _ _ _
      | exact ih3 _ _ _ _ _ _ _ _ _
      | exact spec_l7Good.mono _ _
      | exact spec_l7Of.mono _ _ _
      | exact LeO.none _
      | refine LeO.ite ?_ ?_
      | refine LeO.bind ?_ (fun _ => ?_)
set_option maxHeartbeats 8000000 in
set_option maxRecDepth 100000 in
theorem spec_MixRecipes.calls (k : Nat) (A0 : Option Addr) (c0 : Nat) (l0 : List (S36)) (A1 : Option Addr) (c1 : Nat) (l1 : List (S36)) (a2 : Int) (r1 : List (S36)) (r2 : Bool) (w : World) (hr0 : Kd.C k36 w A0 l0.length l0) (hc0 : l0.length ≤ c0) (hr1 : Kd.C k36 w A1 l1.length l1) (hc1 : l1.length ≤ c1) (h : spec_MixRecipes.f k l0 l1 a2 = some (r1, r2)) :
    Calls Tryd.prog 5 #[.slice A0 l0.length c0, .slice A1 l1.length c1, .int .i64 a2] w fun e w' => ∃ v0_ : Value, e = .returned (.tuple #[v0_, .bool r2]) ∧ Kd.R k36 36 w' w.heap.size (fun _ => True) v0_ r1 ∧ Below w.heap.size w w' := by
  have hu36 := Tryd.underlying36
  have HR0 := Aside0.mk hr0
  have HC0 := Aside0.mk hc0
  clear hr0 hc0
  have HR1 := Aside0.mk hr1
  have HC1 := Aside0.mk hc1
  clear hr1 hc1
  have HB := Aside0.mk (Below.refl w.heap.size w)
  have H : ((spec_l7Good.f k l0).bind fun t140 => (if t140 = true then ((spec_l7Good.f k l1).bind fun t141 => (if t141 = true then ((spec_l1In.f a2 0 100).bind fun t142 => (spec_MixRecipes.j0 k l0 l1 a2 (!t142))) else (spec_MixRecipes.j0 k l0 l1 a2 true))) else (spec_MixRecipes.j0 k l0 l1 a2 true))) = some (r1, r2) := h
  clear h
  have HC4 := Aside0.mk H
  clear H
  go_enter Tryd.func5, Tryd.ntmps5
  go_upto_region 1 with (fail)
  go_cut [26] (fun v26 wc => ∃ (kq : Nat) (x26_3 : Bool), v26 = .bool x26_3 ∧ Aside0 (spec_MixRecipes.j0 kq l0 l1 a2 x26_3 = some (r1, r2)) ∧ Aside0 (kq ≤ k) ∧ Aside0 (Below w.heap.size w wc))
  case first =>
    have H := HC4.out
    clear HC4
    replace H := Option.bind_eq_some_iff.mp H
    obtain ⟨t140, A50, H⟩ := H
    replace H : (if t140 = true then ((spec_l7Good.f k l1).bind fun t141 => (if t141 = true then ((spec_l1In.f a2 0 100).bind fun t142 => (spec_MixRecipes.j0 k l0 l1 a2 (!t142))) else (spec_MixRecipes.j0 k l0 l1 a2 true))) else (spec_MixRecipes.j0 k l0 l1 a2 true)) = some (r1, r2) := H
    have A5 := Aside0.mk A50
    clear A50
    by_cases c6 : t140 = true
    · subst c6
      have H1 : ((spec_l7Good.f k l1).bind fun t141 => (if t141 = true then ((spec_l1In.f a2 0 100).bind fun t142 => (spec_MixRecipes.j0 k l0 l1 a2 (!t142))) else (spec_MixRecipes.j0 k l0 l1 a2 true))) = some (r1, r2) := by rw [if_pos rfl] at H; exact H
      clear H
      have H := H1
      clear H1
      replace H := Option.bind_eq_some_iff.mp H
      obtain ⟨t141, A70, H⟩ := H
      replace H : (if t141 = true then ((spec_l1In.f a2 0 100).bind fun t142 => (spec_MixRecipes.j0 k l0 l1 a2 (!t142))) else (spec_MixRecipes.j0 k l0 l1 a2 true)) = some (r1, r2) := H
      have A7 := Aside0.mk A70
      clear A70
      by_cases c8 : t141 = true
      · subst c8
        have H1 : ((spec_l1In.f a2 0 100).bind fun t142 => (spec_MixRecipes.j0 k l0 l1 a2 (!t142))) = some (r1, r2) := by rw [if_pos rfl] at H; exact H
        clear H
        have H := H1
        clear H1
        replace H := Option.bind_eq_some_iff.mp H
        obtain ⟨t142, A90, H⟩ := H
        replace H : (spec_MixRecipes.j0 k l0 l1 a2 (!t142)) = some (r1, r2) := H
        have A9 := Aside0.mk A90
        clear A90
        have H' := Aside0.mk H
        clear H
        go_wp2_with (first | ((with_reducible refine gate_callee (f := 12) rfl ?_); refine goesL_ (some 15) rfl rfl Tryd.func12 (by kernel_rfl) rfl #[.slice A0 l0.length c0] rfl (by (try simp only [List.map_toArray, List.map_cons, List.map_nil]); first | done | rfl | (simp only [List.length_drop, List.length_take]; rfl)) ?_; (with_reducible refine (spec_l7Good.calls k _ _ l0 true _ ?side1 ?side2 A5.out).mono ?_); (case side1 => repeat (first | exact (Kd.C_below HR0.out HB.out) | (with_reducible refine Kd.C_alloc ?_ _) | (with_reducible refine Kd.C_drewN ?_ _) | (with_reducible refine Kd.C_drew ?_))); (case side2 => exact HC0.out); rintro e w10 ⟨rfl, hb⟩; refine ⟨_, rfl, ?_⟩; have n0_ := Aside0.mk (below_step (by repeat (first | (with_reducible first | exact HB.out | apply below_alloc | apply pw_below_drewN | apply below_drew1) | exact HB.out)) hb); clear HB; have HB := n0_; clear n0_; (try clear hb); (try clear hb2); (try clear hk); (try clear hi)) | (go_at_call 12; (with_reducible refine (spec_l7Good.calls k _ _ l1 true _ ?side1 ?side2 A7.out).mono ?_); (case side1 => repeat (first | exact (Kd.C_below HR1.out HB.out) | (with_reducible refine Kd.C_alloc ?_ _) | (with_reducible refine Kd.C_drewN ?_ _) | (with_reducible refine Kd.C_drew ?_))); (case side2 => exact HC1.out); rintro e w11 ⟨rfl, hb⟩; have n0_ := Aside0.mk (below_step (by repeat (first | (with_reducible first | exact HB.out | apply below_alloc | apply pw_below_drewN | apply below_drew1) | exact HB.out)) hb); clear HB; have HB := n0_; clear n0_; (try clear hb); (try clear hb2); (try clear hk); (try clear hi)) | (go_at_call 13; (with_reducible refine (spec_l1In.calls a2 0 100 t142 _ A9.out).mono ?_); rintro e w' ⟨rfl, ⟨nd, rfl⟩⟩))
        go_meet
        case rel => exact ⟨_, (!t142), (by first | rfl | (simp; done) | (simp [*]; done)), H', ⟨by first | omega | exact Nat.le_refl _⟩, ⟨by repeat (first | (with_reducible first | exact HB.out | apply below_alloc | apply pw_below_drewN | apply below_drew1) | exact HB.out)⟩⟩
      · replace c8 := Bool.eq_false_iff.mpr c8
        subst c8
        have H1 : (spec_MixRecipes.j0 k l0 l1 a2 true) = some (r1, r2) := by rw [if_neg (show ¬ (false = true) by decide)] at H; exact H
        clear H
        have H := H1
        clear H1
        have H' := Aside0.mk H
        clear H
        go_wp2_with (first | ((with_reducible refine gate_callee (f := 12) rfl ?_); refine goesL_ (some 15) rfl rfl Tryd.func12 (by kernel_rfl) rfl #[.slice A0 l0.length c0] rfl (by (try simp only [List.map_toArray, List.map_cons, List.map_nil]); first | done | rfl | (simp only [List.length_drop, List.length_take]; rfl)) ?_; (with_reducible refine (spec_l7Good.calls k _ _ l0 true _ ?side1 ?side2 A5.out).mono ?_); (case side1 => repeat (first | exact (Kd.C_below HR0.out HB.out) | (with_reducible refine Kd.C_alloc ?_ _) | (with_reducible refine Kd.C_drewN ?_ _) | (with_reducible refine Kd.C_drew ?_))); (case side2 => exact HC0.out); rintro e w12 ⟨rfl, hb⟩; refine ⟨_, rfl, ?_⟩; have n0_ := Aside0.mk (below_step (by repeat (first | (with_reducible first | exact HB.out | apply below_alloc | apply pw_below_drewN | apply below_drew1) | exact HB.out)) hb); clear HB; have HB := n0_; clear n0_; (try clear hb); (try clear hb2); (try clear hk); (try clear hi)) | (go_at_call 12; (with_reducible refine (spec_l7Good.calls k _ _ l1 false _ ?side1 ?side2 A7.out).mono ?_); (case side1 => repeat (first | exact (Kd.C_below HR1.out HB.out) | (with_reducible refine Kd.C_alloc ?_ _) | (with_reducible refine Kd.C_drewN ?_ _) | (with_reducible refine Kd.C_drew ?_))); (case side2 => exact HC1.out); rintro e w13 ⟨rfl, hb⟩; have n0_ := Aside0.mk (below_step (by repeat (first | (with_reducible first | exact HB.out | apply below_alloc | apply pw_below_drewN | apply below_drew1) | exact HB.out)) hb); clear HB; have HB := n0_; clear n0_; (try clear hb); (try clear hb2); (try clear hk); (try clear hi)))
        go_meet
        case rel => exact ⟨_, (true), (by first | rfl | (simp; done) | (simp [*]; done)), H', ⟨by first | omega | exact Nat.le_refl _⟩, ⟨by repeat (first | (with_reducible first | exact HB.out | apply below_alloc | apply pw_below_drewN | apply below_drew1) | exact HB.out)⟩⟩
    · replace c6 := Bool.eq_false_iff.mpr c6
      subst c6
      have H1 : (spec_MixRecipes.j0 k l0 l1 a2 true) = some (r1, r2) := by rw [if_neg (show ¬ (false = true) by decide)] at H; exact H
      clear H
      have H := H1
      clear H1
      have H' := Aside0.mk H
      clear H
      go_wp2_with (first | ((with_reducible refine gate_callee (f := 12) rfl ?_); refine goesL_ (some 15) rfl rfl Tryd.func12 (by kernel_rfl) rfl #[.slice A0 l0.length c0] rfl (by (try simp only [List.map_toArray, List.map_cons, List.map_nil]); first | done | rfl | (simp only [List.length_drop, List.length_take]; rfl)) ?_; (with_reducible refine (spec_l7Good.calls k _ _ l0 false _ ?side1 ?side2 A5.out).mono ?_); (case side1 => repeat (first | exact (Kd.C_below HR0.out HB.out) | (with_reducible refine Kd.C_alloc ?_ _) | (with_reducible refine Kd.C_drewN ?_ _) | (with_reducible refine Kd.C_drew ?_))); (case side2 => exact HC0.out); rintro e w14 ⟨rfl, hb⟩; refine ⟨_, rfl, ?_⟩; have n0_ := Aside0.mk (below_step (by repeat (first | (with_reducible first | exact HB.out | apply below_alloc | apply pw_below_drewN | apply below_drew1) | exact HB.out)) hb); clear HB; have HB := n0_; clear n0_; (try clear hb); (try clear hb2); (try clear hk); (try clear hi)))
      go_meet
      case rel => exact ⟨_, (true), (by first | rfl | (simp; done) | (simp [*]; done)), H', ⟨by first | omega | exact Nat.le_refl _⟩, ⟨by repeat (first | (with_reducible first | exact HB.out | apply below_alloc | apply pw_below_drewN | apply below_drew1) | exact HB.out)⟩⟩
  case rest =>
    clear HC4
    try clear c1
    try clear p2
    try clear c5
    try clear c6
    try clear c8
    try clear c12
    obtain ⟨kq, x26_3, rfl, HA, HJ3, HB⟩ := hcut
    cases kq with
    | zero => exact absurd HA.out (by simp [spec_MixRecipes.j0])
    | succ kj3 =>
      have H := HA.out
      clear HA
      simp only [spec_MixRecipes.j0] at H
      by_cases c15 : x26_3 = true
      · subst c15
        have H1 : (some ((([] : List (S36))), false)) = some (r1, r2) := by rw [if_pos rfl] at H; exact H
        clear H
        have H := H1
        clear H1
        obtain ⟨y143, hy143⟩ : ∃ y_ : List (S36), y_ = (([] : List (S36))) := ⟨_, rfl⟩
        replace H : (some (y143, false)) = some (r1, r2) := by first | (rw [hy143]; with_reducible exact H) | (have H2_ := (Option.bind_some _ _).symm.trans H; rw [hy143]; with_reducible exact H2_) | (have H2_ := (Option.bind_some _ _).symm.trans H; with_reducible exact H2_) | with_reducible exact H | (rw [hy143]; exact H) | exact H
        have Ny143 := Aside0.mk hy143
        clear hy143
        simp only [Option.some.injEq, Prod.mk.injEq] at H
        obtain ⟨rfl, rfl⟩ := H
        go_wp2_with (first | ((with_reducible refine gate_dst (N := 27) rfl ?_); refine Kd.R_lit k36 _ 36 ?hg (N := 27) ?hd (xs := ([] : List (S36))) (inner := []) (ok := fun _ => True) (okp := fun _ => True) ?hr ?hp (fun _ hk => hk) trivial (Below.refl _ _) (Nat.le_refl _) (by simp) ?_; (case hd => rfl); (case hg => rfl); (case hr => first | (go_simp; done) | (go_simp; rfl)); (case hp => exact (Reps.none _ _)); intro v144 w16 ho17 hb hg_ hnew_; clear hg_ hnew_; (first | rw [← Ny143.out] at ho17 | (simp only [Int.reduceToNat] at ho17; rw [← Ny143.out] at ho17)); have n0_ := Aside0.mk (Kd.R_lower ho17 (below_size (by repeat (first | (with_reducible first | exact HB.out | apply below_alloc | apply pw_below_drewN | apply below_drew1) | exact HB.out)))); have n1_ := Aside0.mk (below_step (by repeat (first | (with_reducible first | exact HB.out | apply below_alloc | apply pw_below_drewN | apply below_drew1) | exact HB.out)) hb); clear HB; have HO145 := n0_; have HB := n1_; clear n0_ n1_; clear hb ho17))
        go_ret2
        exact ⟨_, by first | rfl | (simp [errW_none, errW_some] <;> rfl) | (simp [*, errW_none, errW_some] <;> rfl), by (with_reducible repeat (first | apply Kd.R_alloc | apply Kd.R_drewN | apply Kd.R_drew)); exact HO145.out, by repeat (first | (with_reducible first | exact HB.out | apply below_alloc | apply pw_below_drewN | apply below_drew1) | exact HB.out)⟩
      · replace c15 := Bool.eq_false_iff.mpr c15
        subst c15
        have H1 : ((some (([] : List (S36)) : List (S36))).bind fun y149 => (if y149.length + l0.length < 5864062014805 then ((some (y149 ++ l0 : List (S36))).bind fun y152 => (if y152.length + l1.length < 5864062014805 then (spec_MixRecipes.l0 kj3 l0 l1 a2 (([] : List (S36))) (y152 ++ l1) 0) else (none))) else (none))) = some (r1, r2) := by rw [if_neg (show ¬ (false = true) by decide)] at H; exact H
        clear H
        have H := H1
        clear H1
        obtain ⟨y146, hy146⟩ : ∃ y_ : List (S36), y_ = (([] : List (S36))) := ⟨_, rfl⟩
        replace H : ((some (([] : List (S36)) : List (S36))).bind fun y149 => (if y149.length + l0.length < 5864062014805 then ((some (y149 ++ l0 : List (S36))).bind fun y152 => (if y152.length + l1.length < 5864062014805 then (spec_MixRecipes.l0 kj3 l0 l1 a2 y146 (y152 ++ l1) 0) else (none))) else (none))) = some (r1, r2) := by first | (rw [hy146]; with_reducible exact H) | (have H2_ := (Option.bind_some _ _).symm.trans H; rw [hy146]; with_reducible exact H2_) | (have H2_ := (Option.bind_some _ _).symm.trans H; with_reducible exact H2_) | with_reducible exact H | (rw [hy146]; exact H) | exact H
        have Ny146 := Aside0.mk hy146
        clear hy146
        obtain ⟨y149, hy149⟩ : ∃ y_ : List (S36), y_ = (([] : List (S36))) := ⟨_, rfl⟩
        replace H : (if y149.length + l0.length < 5864062014805 then ((some (y149 ++ l0 : List (S36))).bind fun y152 => (if y152.length + l1.length < 5864062014805 then (spec_MixRecipes.l0 kj3 l0 l1 a2 y146 (y152 ++ l1) 0) else (none))) else (none)) = some (r1, r2) := by first | (rw [hy149]; with_reducible exact H) | (have H2_ := (Option.bind_some _ _).symm.trans H; rw [hy149]; with_reducible exact H2_) | (have H2_ := (Option.bind_some _ _).symm.trans H; with_reducible exact H2_) | with_reducible exact H | (rw [hy149]; exact H) | exact H
        have Ny149 := Aside0.mk hy149
        clear hy149
        by_cases c18 : y149.length + l0.length < 5864062014805
        · rw [if_pos c18] at H
          have LMc18 := Aside0.mk c18
          clear c18
          obtain ⟨y152, hy152⟩ : ∃ y_ : List (S36), y_ = (y149 ++ l0) := ⟨_, rfl⟩
          replace H : (if y152.length + l1.length < 5864062014805 then (spec_MixRecipes.l0 kj3 l0 l1 a2 y146 (y152 ++ l1) 0) else (none)) = some (r1, r2) := by first | (rw [hy152]; with_reducible exact H) | (have H2_ := (Option.bind_some _ _).symm.trans H; rw [hy152]; with_reducible exact H2_) | (have H2_ := (Option.bind_some _ _).symm.trans H; with_reducible exact H2_) | with_reducible exact H | (rw [hy152]; exact H) | exact H
          have Ny152 := Aside0.mk hy152
          clear hy152
          by_cases c19 : y152.length + l1.length < 5864062014805
          · rw [if_pos c19] at H
            have LMc19 := Aside0.mk c19
            clear c19
            obtain ⟨y155, hy155⟩ : ∃ y_ : List (S36), y_ = (y152 ++ l1) := ⟨_, rfl⟩
            replace H : (spec_MixRecipes.l0 kj3 l0 l1 a2 y146 y155 0) = some (r1, r2) := by first | (rw [hy155]; with_reducible exact H) | (have H2_ := (Option.bind_some _ _).symm.trans H; rw [hy155]; with_reducible exact H2_) | (have H2_ := (Option.bind_some _ _).symm.trans H; with_reducible exact H2_) | with_reducible exact H | (rw [hy155]; exact H) | exact H
            have Ny155 := Aside0.mk hy155
            clear hy155
            have H' := Aside0.mk H
            clear H
            go_wp2_with (first | ((with_reducible refine gate_dst (N := 28) rfl ?_); refine Kd.R_lit k36 _ 36 ?hg (N := 28) ?hd (xs := ([] : List (S36))) (inner := []) (ok := fun _ => True) (okp := fun _ => True) ?hr ?hp (fun _ hk => hk) trivial (Below.refl _ _) (Nat.le_refl _) (by simp) ?_; (case hd => rfl); (case hg => rfl); (case hr => first | (go_simp; done) | (go_simp; rfl)); (case hp => exact (Reps.none _ _)); intro v147 w20 ho21 hb hg_ hnew_; clear hg_ hnew_; (first | rw [← Ny146.out] at ho21 | (simp only [Int.reduceToNat] at ho21; rw [← Ny146.out] at ho21)); have n0_ := Aside0.mk (Kd.R_lower ho21 (below_size (by repeat (first | (with_reducible first | exact HB.out | apply below_alloc | apply pw_below_drewN | apply below_drew1) | exact HB.out)))); have n1_ := Aside0.mk (below_step (by repeat (first | (with_reducible first | exact HB.out | apply below_alloc | apply pw_below_drewN | apply below_drew1) | exact HB.out)) hb); clear HB; have HO148 := n0_; have HB := n1_; clear n0_ n1_; clear hb ho21) | ((with_reducible refine gate_dst (N := 29) rfl ?_); refine Kd.R_lit k36 _ 36 ?hg (N := 29) ?hd (xs := ([] : List (S36))) (inner := []) (ok := fun _ => True) (okp := fun _ => True) ?hr ?hp (fun _ hk => hk) trivial (Below.refl _ _) (Nat.le_refl _) (by simp) ?_; (case hd => rfl); (case hg => rfl); (case hr => first | (go_simp; done) | (go_simp; rfl)); (case hp => exact (Reps.none _ _)); intro v150 w22 ho23 hb hg_ hnew_; clear hg_ hnew_; (first | rw [← Ny149.out] at ho23 | (simp only [Int.reduceToNat] at ho23; rw [← Ny149.out] at ho23)); have n0_ := Aside0.mk (Kd.R_elder' (by (with_reducible repeat (first | apply Kd.R_alloc | apply Kd.R_drewN | apply Kd.R_drew)); exact HO148.out) (Kd.R_base ho23) hb); have n1_ := Aside0.mk (Kd.R_lower (Kd.R_new' ho23 (Kd.R_lt (by (with_reducible repeat (first | apply Kd.R_alloc | apply Kd.R_drewN | apply Kd.R_drew)); exact HO148.out))) (below_size (by repeat (first | (with_reducible first | exact HB.out | apply below_alloc | apply pw_below_drewN | apply below_drew1) | exact HB.out)))); have n2_ := Aside0.mk (below_step (by repeat (first | (with_reducible first | exact HB.out | apply below_alloc | apply pw_below_drewN | apply below_drew1) | exact HB.out)) hb); clear HO148; clear HB; have HO148 := n0_; have HO151 := n1_; have HB := n2_; clear n0_ n1_ n2_; clear hb ho23) | ((with_reducible refine gate_builtin (b := .append) (xs := #[.tmp 29, .tmp 30]) rfl ?_); at_builtin; refine Kd.R_append_rows k36 (w0 := w) w.heap.size rfl (.tmp 29) (.tmp 30) 24 36 (.agg #[(.string ⟨#[]⟩), (.int .i64 0)]) 24 rfl Tryd.underlying24 info36 rfl (by decide) (by omega) v150 y149 l0 _ _ _ (fun k_ => some k_ ≠ (v147 : Value).ownBlock) (fun _ => False) rfl rfl ?aO ?aR (fun _ _ h => h) (fun _ h => h.elim) ?aF ?aB ?aS ?aL ?_; (case aR => repeat (first | exact (Kd.C_below HR0.out HB.out) | (with_reducible refine Kd.C_alloc ?_ _) | (with_reducible refine Kd.C_drewN ?_ _) | (with_reducible refine Kd.C_drew ?_))); (case aB => exact (by repeat (first | (with_reducible first | exact HB.out | apply below_alloc | apply pw_below_drewN | apply below_drew1) | exact HB.out))); (case aF => exact (fun k_ hk => Kd.fresh' (Kd.R_lt (by (with_reducible repeat (first | apply Kd.R_alloc | apply Kd.R_drewN | apply Kd.R_drew)); exact HO148.out)) k_ hk)); (case aO => exact (by (with_reducible repeat (first | apply Kd.R_alloc | apply Kd.R_drewN | apply Kd.R_drew)); exact Kd.R_mono HO151.out (fun _ hk => hk.2))); (case aS => exact (below_size (by repeat (first | (with_reducible first | exact HB.out | apply below_alloc | apply pw_below_drewN | apply below_drew1) | exact HB.out)))); (case aL => have := LMc18.out; omega); intro v153 w24 ho hb hg hat; rw [← Ny152.out] at ho; have n0_ := Aside0.mk (Kd.R_after (ok := (fun _ => True)) (by (with_reducible repeat (first | apply Kd.R_alloc | apply Kd.R_drewN | apply Kd.R_drew)); exact HO148.out) hg hat); have n1_ := Aside0.mk (hb); have n2_ := Aside0.mk (ho); clear HO148; clear HB; clear HO151; have HO148 := n0_; have HB := n1_; have HO154 := n2_; clear n0_ n1_ n2_; clear ho hb hg hat) | ((with_reducible refine gate_builtin (b := .append) (xs := #[.tmp 31, .tmp 32]) rfl ?_); at_builtin; refine Kd.R_append_rows k36 (w0 := w) w.heap.size rfl (.tmp 31) (.tmp 32) 24 36 (.agg #[(.string ⟨#[]⟩), (.int .i64 0)]) 24 rfl Tryd.underlying24 info36 rfl (by decide) (by omega) v153 y152 l1 _ _ _ (fun k_ => some k_ ≠ (v147 : Value).ownBlock) (fun _ => False) rfl rfl ?aO ?aR (fun _ _ h => h) (fun _ h => h.elim) ?aF ?aB ?aS ?aL ?_; (case aR => repeat (first | exact (Kd.C_below HR1.out HB.out) | (with_reducible refine Kd.C_alloc ?_ _) | (with_reducible refine Kd.C_drewN ?_ _) | (with_reducible refine Kd.C_drew ?_))); (case aB => exact (by repeat (first | (with_reducible first | exact HB.out | apply below_alloc | apply pw_below_drewN | apply below_drew1) | exact HB.out))); (case aF => exact (fun k_ hk => Kd.fresh' (Kd.R_lt (by (with_reducible repeat (first | apply Kd.R_alloc | apply Kd.R_drewN | apply Kd.R_drew)); exact HO148.out)) k_ hk)); (case aO => exact (by (with_reducible repeat (first | apply Kd.R_alloc | apply Kd.R_drewN | apply Kd.R_drew)); exact HO154.out)); (case aS => exact (below_size (by repeat (first | (with_reducible first | exact HB.out | apply below_alloc | apply pw_below_drewN | apply below_drew1) | exact HB.out)))); (case aL => have := LMc19.out; omega); intro v156 w25 ho hb hg hat; rw [← Ny155.out] at ho; have n0_ := Aside0.mk (Kd.R_after (ok := (fun _ => True)) (by (with_reducible repeat (first | apply Kd.R_alloc | apply Kd.R_drewN | apply Kd.R_drew)); exact HO148.out) hg hat); have n1_ := Aside0.mk (hb); have n2_ := Aside0.mk (ho); clear HO148; clear HB; clear HO154; have HO148 := n0_; have HB := n1_; have HO157 := n2_; clear n0_ n1_ n2_; clear ho hb hg hat))
            go_loopg [8, 10] kj3 (fun kq v8 v10 w' => ∃ (x8_2 : List (S36)) (x10_2 : Int), v10 = .int .i64 x10_2 ∧ Aside0 (spec_MixRecipes.l0 kq l0 l1 a2 x8_2 y155 x10_2 = some (r1, r2)) ∧ Aside0 (kq ≤ kj3) ∧ Aside0 (Kd.R k36 36 w' w.heap.size (fun k_ => some k_ ≠ (v156 : Value).ownBlock) v8 x8_2) ∧ Aside0 (Kd.R k36 36 w' w.heap.size (fun k_ => some k_ ≠ (v8 : Value).ownBlock) v156 y155) ∧ Aside0 (Below w.heap.size w w'))
            case atStart => exact ⟨(y146), (0), (by first | rfl | (simp; done) | (simp [*]; done)), H', ⟨Nat.le_refl _⟩, ⟨by (with_reducible repeat (first | apply Kd.R_alloc | apply Kd.R_drewN | apply Kd.R_drew)); exact Kd.R_mono HO148.out (fun _ hk => hk.2)⟩, ⟨by (with_reducible repeat (first | apply Kd.R_alloc | apply Kd.R_drewN | apply Kd.R_drew)); exact HO157.out⟩, ⟨by repeat (first | (with_reducible first | exact HB.out | apply below_alloc | apply pw_below_drewN | apply below_drew1) | exact HB.out)⟩⟩
            case round =>
              clear H'
              try clear c1
              try clear p2
              try clear c5
              try clear c6
              try clear c8
              try clear c12
              try clear c15
              try clear c18
              try clear c19
              try clear p2
              obtain ⟨x8_2, x10_2, rfl, HA, HK2, HO_8, HO_9, HB⟩ := hrel
              cases gk with
              | zero => exact absurd HA.out (by simp [spec_MixRecipes.l0])
              | succ k2 =>
                have H := HA.out
                clear HA
                simp only [spec_MixRecipes.l0] at H
                by_cases c26 : x10_2 < (y155.length : Int)
                · rw [if_pos c26] at H
                  have c26b0 : decide (x10_2 < (y155.length : Int)) = true := decide_eq_true c26
                  clear c26
                  by_cases c27 : 0 ≤ x10_2
                  · rw [if_pos c27] at H
                    have c27b0 : decide (0 ≤ x10_2) = true := decide_eq_true c27
                    clear c27
                    replace H := Option.bind_eq_some_iff.mp H
                    obtain ⟨t163, A280, H⟩ := H
                    replace H : ((spec_l7Of.f k2 l1 ((rd_T36 y155 x10_2).f0)).bind fun t164 => (if (wrap64 (Int.tdiv (wrap64 ((wrap64 ((wrap64 (t163 * (wrap64 (100 - a2)))) + (wrap64 (t164 * a2)))) + 99)) 100)) = 0 then (spec_MixRecipes.j2 k2 l0 l1 a2 x8_2 y155 x10_2 ((rd_T36 y155 x10_2).f0) (wrap64 (Int.tdiv (wrap64 ((wrap64 ((wrap64 (t163 * (wrap64 (100 - a2)))) + (wrap64 (t164 * a2)))) + 99)) 100)) true) else ((spec_l7Of.f k2 x8_2 ((rd_T36 y155 x10_2).f0)).bind fun t165 => (spec_MixRecipes.j2 k2 l0 l1 a2 x8_2 y155 x10_2 ((rd_T36 y155 x10_2).f0) (wrap64 (Int.tdiv (wrap64 ((wrap64 ((wrap64 (t163 * (wrap64 (100 - a2)))) + (wrap64 (t164 * a2)))) + 99)) 100)) (decide (t165 > 0)))))) = some (r1, r2) := H
                    have A28 := Aside0.mk A280
                    clear A280
                    replace H := Option.bind_eq_some_iff.mp H
                    obtain ⟨t164, A290, H⟩ := H
                    replace H : (if (wrap64 (Int.tdiv (wrap64 ((wrap64 ((wrap64 (t163 * (wrap64 (100 - a2)))) + (wrap64 (t164 * a2)))) + 99)) 100)) = 0 then (spec_MixRecipes.j2 k2 l0 l1 a2 x8_2 y155 x10_2 ((rd_T36 y155 x10_2).f0) (wrap64 (Int.tdiv (wrap64 ((wrap64 ((wrap64 (t163 * (wrap64 (100 - a2)))) + (wrap64 (t164 * a2)))) + 99)) 100)) true) else ((spec_l7Of.f k2 x8_2 ((rd_T36 y155 x10_2).f0)).bind fun t165 => (spec_MixRecipes.j2 k2 l0 l1 a2 x8_2 y155 x10_2 ((rd_T36 y155 x10_2).f0) (wrap64 (Int.tdiv (wrap64 ((wrap64 ((wrap64 (t163 * (wrap64 (100 - a2)))) + (wrap64 (t164 * a2)))) + 99)) 100)) (decide (t165 > 0))))) = some (r1, r2) := H
                    have A29 := Aside0.mk A290
                    clear A290
                    have HC30 := Aside0.mk H
                    clear H
                    obtain ⟨Ao31, co31, eo31⟩ := Kd.R_slice HO_9.out
                    subst eo31
                    have p162 : 0 ≤ (x10_2 : Int) := of_decide_eq_true (by first | (with_reducible assumption) | assumption)
                    have q162 : x10_2 < (y155.length : Int) := of_decide_eq_true (by first | (with_reducible assumption) | assumption)
                    obtain ⟨ad162, e162, hx162_0, hx162_1⟩ := at_T36 (Kd.R_reads' HO_9.out).2.2 x10_2 p162 q162
                    cases e162
                    replace p162 := eq_true p162
                    replace q162 := eq_true q162
                    go_upto_region 10 with (first | ((with_reducible refine gate_callee (f := 14) rfl ?_); refine goesL_ (some 47) rfl rfl Tryd.func14 (by kernel_rfl) rfl #[.slice A0 l0.length c0, .string ((rd_T36 y155 x10_2).f0)] rfl (by (try simp only [List.map_toArray, List.map_cons, List.map_nil]); first | done | rfl | (simp only [List.length_drop, List.length_take]; rfl)) ?_; (with_reducible refine (spec_l7Of.calls k2 _ _ l0 ((rd_T36 y155 x10_2).f0) t163 _ ?side1 ?side2 A28.out).mono ?_); (case side1 => repeat (first | exact (Kd.C_below HR0.out HB.out) | (with_reducible refine Kd.C_alloc ?_ _) | (with_reducible refine Kd.C_drewN ?_ _) | (with_reducible refine Kd.C_drew ?_))); (case side2 => exact HC0.out); rintro e w' ⟨rfl, ⟨nd, rfl⟩⟩; refine ⟨_, rfl, ?_⟩) | ((with_reducible refine gate_callee (f := 14) rfl ?_); refine goesL_ (some 53) rfl rfl Tryd.func14 (by kernel_rfl) rfl #[.slice A1 l1.length c1, .string ((rd_T36 y155 x10_2).f0)] rfl (by (try simp only [List.map_toArray, List.map_cons, List.map_nil]); first | done | rfl | (simp only [List.length_drop, List.length_take]; rfl)) ?_; (with_reducible refine (spec_l7Of.calls k2 _ _ l1 ((rd_T36 y155 x10_2).f0) t164 _ ?side1 ?side2 A29.out).mono ?_); (case side1 => repeat (first | exact (Kd.C_below HR1.out (by repeat (first | (with_reducible first | exact HB.out | apply below_alloc | apply pw_below_drewN | apply below_drew1) | exact HB.out))) | (with_reducible refine Kd.C_alloc ?_ _) | (with_reducible refine Kd.C_drewN ?_ _) | (with_reducible refine Kd.C_drew ?_))); (case side2 => exact HC1.out); rintro e w' ⟨rfl, ⟨nd, rfl⟩⟩; refine ⟨_, rfl, ?_⟩))
                    (try simp only [Act.put, List.setIfInBounds_toArray, List.set_cons_zero, List.set_cons_succ])
                    go_cut [66] (fun v66 wc => ∃ (kq : Nat) (x66_29 : Bool), v66 = .bool x66_29 ∧ Aside0 (spec_MixRecipes.j2 kq l0 l1 a2 x8_2 y155 x10_2 ((rd_T36 y155 x10_2).f0) (wrap64 (Int.tdiv (wrap64 ((wrap64 ((wrap64 (t163 * (wrap64 (100 - a2)))) + (wrap64 (t164 * a2)))) + 99)) 100)) x66_29 = some (r1, r2)) ∧ Aside0 (kq ≤ k2) ∧ Aside0 (Kd.R k36 36 wc w.heap.size (fun k_ => some k_ ≠ ((.slice (some ad162) y155.length co31) : Value).ownBlock) u8 x8_2) ∧ Aside0 (Kd.R k36 36 wc w.heap.size (fun k_ => some k_ ≠ (u8 : Value).ownBlock) (.slice (some ad162) y155.length co31) y155) ∧ Aside0 (Below w.heap.size w wc))
                    case first =>
                      have H := HC30.out
                      clear HC30
                      by_cases c32 : (wrap64 (Int.tdiv (wrap64 ((wrap64 ((wrap64 (t163 * (wrap64 (100 - a2)))) + (wrap64 (t164 * a2)))) + 99)) 100)) = 0
                      · rw [if_pos c32] at H
                        have c32b0 : ((wrap64 (Int.tdiv (wrap64 ((wrap64 ((wrap64 (t163 * (wrap64 (100 - a2)))) + (wrap64 (t164 * a2)))) + 99)) 100)) == 0) = true := beq_iff_eq.mpr c32
                        have c32b1 : ((wrap64 (Int.tdiv (wrap64 ((wrap64 ((wrap64 (t163 * (wrap64 (100 - a2)))) + (wrap64 (t164 * a2)))) + 99)) 100)) != 0) = false := bne_eq_false_iff_eq.mpr c32
                        clear c32
                        (first | rw [c32b0] | (simp only [i64_w, i32_w]; rw [c32b0]) | skip)
                        have H' := Aside0.mk H
                        clear H
                        go_wp2
                        go_meet
                        case rel => exact ⟨_, (true), (by first | rfl | (simp; done) | (simp [*]; done)), H', ⟨by have := HJ3.out; have := HK2.out; first | omega | exact Nat.le_refl _⟩, ⟨by (with_reducible repeat (first | apply Kd.R_alloc | apply Kd.R_drewN | apply Kd.R_drew)); exact HO_8.out⟩, ⟨by (with_reducible repeat (first | apply Kd.R_alloc | apply Kd.R_drewN | apply Kd.R_drew)); exact HO_9.out⟩, ⟨by repeat (first | (with_reducible first | exact HB.out | apply below_alloc | apply pw_below_drewN | apply below_drew1) | exact HB.out)⟩⟩
                      · rw [if_neg c32] at H
                        have c32b0 : ((wrap64 (Int.tdiv (wrap64 ((wrap64 ((wrap64 (t163 * (wrap64 (100 - a2)))) + (wrap64 (t164 * a2)))) + 99)) 100)) == 0) = false := beq_eq_false_iff_ne.mpr c32
                        have c32b1 : ((wrap64 (Int.tdiv (wrap64 ((wrap64 ((wrap64 (t163 * (wrap64 (100 - a2)))) + (wrap64 (t164 * a2)))) + 99)) 100)) != 0) = true := bne_iff_ne.mpr c32
                        (first | rw [c32b0] | (simp only [i64_w, i32_w]; rw [c32b0]) | skip)
                        replace H := Option.bind_eq_some_iff.mp H
                        obtain ⟨t165, A330, H⟩ := H
                        replace H : (spec_MixRecipes.j2 k2 l0 l1 a2 x8_2 y155 x10_2 ((rd_T36 y155 x10_2).f0) (wrap64 (Int.tdiv (wrap64 ((wrap64 ((wrap64 (t163 * (wrap64 (100 - a2)))) + (wrap64 (t164 * a2)))) + 99)) 100)) (decide (t165 > 0))) = some (r1, r2) := H
                        have A33 := Aside0.mk A330
                        clear A330
                        have H' := Aside0.mk H
                        clear H
                        obtain ⟨Ao34, co34, eo34⟩ := Kd.R_slice HO_8.out
                        subst eo34
                        go_wp2_with (first | (go_at_call 14; (with_reducible refine (spec_l7Of.calls k2 _ _ x8_2 ((rd_T36 y155 x10_2).f0) t165 _ ?side1 ?side2 A33.out).mono ?_); (case side1 => repeat (first | exact (Kd.R_reads' HO_8.out).2.2 | (with_reducible refine Kd.C_alloc ?_ _) | (with_reducible refine Kd.C_drewN ?_ _) | (with_reducible refine Kd.C_drew ?_))); (case side2 => exact (Kd.R_reads' HO_8.out).2.1); rintro e w' ⟨rfl, ⟨nd, rfl⟩⟩))
                        go_meet
                        case rel => exact ⟨_, (decide (t165 > 0)), (by first | rfl | (simp; done) | (simp [*]; done)), H', ⟨by have := HJ3.out; have := HK2.out; first | omega | exact Nat.le_refl _⟩, ⟨by (with_reducible repeat (first | apply Kd.R_alloc | apply Kd.R_drewN | apply Kd.R_drew)); exact HO_8.out⟩, ⟨by (with_reducible repeat (first | apply Kd.R_alloc | apply Kd.R_drewN | apply Kd.R_drew)); exact HO_9.out⟩, ⟨by repeat (first | (with_reducible first | exact HB.out | apply below_alloc | apply pw_below_drewN | apply below_drew1) | exact HB.out)⟩⟩
                    case rest =>
                      clear HC30
                      try clear c1
                      try clear p1
                      try clear q1
                      try clear hx1
                      try clear c2
                      try clear p2
                      try clear c3
                      try clear c5
                      try clear c6
                      try clear p6
                      try clear c8
                      try clear c12
                      try clear c14
                      try clear c15
                      try clear p16
                      try clear q16
                      try clear hx16
                      try clear c18
                      try clear c19
                      try clear c26
                      try clear c26b0
                      try clear c27
                      try clear c27b0
                      try clear c32
                      try clear c32b0
                      try clear c32b1
                      try clear hx162_0
                      try clear hx162_1
                      try clear p162
                      try clear p2
                      try clear q162
                      obtain ⟨kq, x66_29, rfl, HA, HJ29, HO_8, HO_9, HB⟩ := hcut
                      cases kq with
                      | zero => exact absurd HA.out (by simp [spec_MixRecipes.j2])
                      | succ kj29 =>
                        have H := HA.out
                        clear HA
                        simp only [spec_MixRecipes.j2] at H
                        by_cases c35 : x66_29 = true
                        · subst c35
                          have H1 : (spec_MixRecipes.l0 kj29 l0 l1 a2 x8_2 y155 (wrap64 (x10_2 + 1))) = some (r1, r2) := by rw [if_pos rfl] at H; exact H
                          clear H
                          have H := H1
                          clear H1
                          have H' := Aside0.mk H
                          clear H
                          go_wp2
                          go_roundg kj29
                          case measure => have := HJ3.out; have := HK2.out; have := HJ29.out; omega
                          case rel => exact ⟨(x8_2), (wrap64 (x10_2 + 1)), (by first | rfl | (simp; done) | (simp [*]; done)), H', ⟨by have := HJ3.out; have := HK2.out; have := HJ29.out; omega⟩, ⟨by (with_reducible repeat (first | apply Kd.R_alloc | apply Kd.R_drewN | apply Kd.R_drew)); exact HO_8.out⟩, ⟨by (with_reducible repeat (first | apply Kd.R_alloc | apply Kd.R_drewN | apply Kd.R_drew)); exact HO_9.out⟩, ⟨by repeat (first | (with_reducible first | exact HB.out | apply below_alloc | apply pw_below_drewN | apply below_drew1) | exact HB.out)⟩⟩
                        · replace c35 := Bool.eq_false_iff.mpr c35
                          subst c35
                          have H1 : (spec_MixRecipes.l1 kj29 l0 l1 a2 x8_2 y155 x10_2 ((rd_T36 y155 x10_2).f0) (wrap64 (Int.tdiv (wrap64 ((wrap64 ((wrap64 (t163 * (wrap64 (100 - a2)))) + (wrap64 (t164 * a2)))) + 99)) 100)) (x8_2.length : Int)) = some (r1, r2) := by rw [if_neg (show ¬ (false = true) by decide)] at H; exact H
                          clear H
                          have H := H1
                          clear H1
                          have H' := Aside0.mk H
                          clear H
                          obtain ⟨Ao36, co36, eo36⟩ := Kd.R_slice HO_8.out
                          subst eo36
                          go_wp2
                          go_loopg [13] kj29 (fun kq v13 w' => ∃ (x13_4 : Int), v13 = .int .i64 x13_4 ∧ Aside0 (spec_MixRecipes.l1 kq l0 l1 a2 x8_2 y155 x10_2 ((rd_T36 y155 x10_2).f0) (wrap64 (Int.tdiv (wrap64 ((wrap64 ((wrap64 (t163 * (wrap64 (100 - a2)))) + (wrap64 (t164 * a2)))) + 99)) 100)) x13_4 = some (r1, r2)) ∧ Aside0 (kq ≤ kj29) ∧ Aside0 (Kd.R k36 36 w' w.heap.size (fun k_ => some k_ ≠ ((.slice (some ad162) y155.length co31) : Value).ownBlock) (.slice Ao36 x8_2.length co36) x8_2) ∧ Aside0 (Kd.R k36 36 w' w.heap.size (fun k_ => some k_ ≠ ((.slice Ao36 x8_2.length co36) : Value).ownBlock) (.slice (some ad162) y155.length co31) y155) ∧ Aside0 (Below w.heap.size w w'))
                          case atStart => exact ⟨((x8_2.length : Int)), (by first | rfl | (simp; done) | (simp [*]; done)), H', ⟨Nat.le_refl _⟩, ⟨by (with_reducible repeat (first | apply Kd.R_alloc | apply Kd.R_drewN | apply Kd.R_drew)); exact HO_8.out⟩, ⟨by (with_reducible repeat (first | apply Kd.R_alloc | apply Kd.R_drewN | apply Kd.R_drew)); exact HO_9.out⟩, ⟨by repeat (first | (with_reducible first | exact HB.out | apply below_alloc | apply pw_below_drewN | apply below_drew1) | exact HB.out)⟩⟩
                          case round =>
                            clear H'
                            try clear c1
                            try clear p1
                            try clear q1
                            try clear hx1
                            try clear c2
                            try clear p2
                            try clear c3
                            try clear c5
                            try clear c6
                            try clear p6
                            try clear c8
                            try clear c12
                            try clear c14
                            try clear c15
                            try clear p16
                            try clear q16
                            try clear hx16
                            try clear c18
                            try clear c19
                            try clear c26
                            try clear c26b0
                            try clear c27
                            try clear c27b0
                            try clear c32
                            try clear c32b0
                            try clear c32b1
                            try clear c35
                            try clear hx162_0
                            try clear hx162_1
                            try clear p1
                            try clear p16
                            try clear p162
                            try clear p2
                            try clear p6
                            try clear q1
                            try clear q16
                            try clear q162
                            obtain ⟨x13_4, rfl, HA, HK4, HO_8, HO_9, HB⟩ := hrel
                            cases gk with
                            | zero => exact absurd HA.out (by simp [spec_MixRecipes.l1])
                            | succ k4 =>
                              have H := HA.out
                              clear HA
                              simp only [spec_MixRecipes.l1] at H
                              by_cases c37 : x13_4 > 0
                              · rw [if_pos c37] at H
                                have c37b0 : decide (0 < x13_4) = true := decide_eq_true c37
                                clear c37
                                obtain ⟨ji38, hji38⟩ : ∃ j_ : Int, (wrap64 (x13_4 - 1)) = j_ := ⟨_, rfl⟩
                                replace H : (if 0 ≤ (ji38) then (if (ji38) < (x8_2.length : Int) then (if (Op.bytesLess ((rd_T36 y155 x10_2).f0).toList (((rd_T36 x8_2 (ji38)).f0).toList)) = true then (spec_MixRecipes.l1 k4 l0 l1 a2 x8_2 y155 x10_2 ((rd_T36 y155 x10_2).f0) (wrap64 (Int.tdiv (wrap64 ((wrap64 ((wrap64 (t163 * (wrap64 (100 - a2)))) + (wrap64 (t164 * a2)))) + 99)) 100)) ji38) else (if 0 ≤ x13_4 then (if x13_4 ≤ (x8_2.length : Int) then ((some (x8_2.take (x13_4 : Int).toNat : List (S36))).bind fun y167 => ((some (x8_2.drop (x13_4 : Int).toNat : List (S36))).bind fun y171 => ((some (([] : List (S36)) : List (S36))).bind fun y175 => (if y175.length + y167.length < 5864062014805 then ((some (y175 ++ y167 : List (S36))).bind fun y178 => (if y178.length < 5864062014805 then ((some (y178 ++ [(⟨((rd_T36 y155 x10_2).f0), (wrap64 (Int.tdiv (wrap64 ((wrap64 ((wrap64 (t163 * (wrap64 (100 - a2)))) + (wrap64 (t164 * a2)))) + 99)) 100))⟩ : S36)] : List (S36))).bind fun y181 => (if y181.length + y171.length < 5864062014805 then (spec_MixRecipes.l0 k4 l0 l1 a2 (y181 ++ y171) y155 (wrap64 (x10_2 + 1))) else (none))) else (none))) else (none))))) else (none)) else (none))) else (none)) else (none)) = some (r1, r2) := by first | (rw [hji38] at H; exact H) | (simp only [hji38] at H ⊢; exact H)
                                have hji38w : (IntKind.i64.wrap (x13_4 - 1)) = ji38 := (i64_w _).trans hji38
                                by_cases c39 : 0 ≤ (ji38)
                                · rw [if_pos c39] at H
                                  have c39b0 : decide (0 ≤ (ji38)) = true := decide_eq_true c39
                                  clear c39
                                  by_cases c40 : (ji38) < (x8_2.length : Int)
                                  · rw [if_pos c40] at H
                                    have c40b0 : decide ((ji38) < (x8_2.length : Int)) = true := decide_eq_true c40
                                    clear c40
                                    by_cases c41 : (Op.bytesLess ((rd_T36 y155 x10_2).f0).toList (((rd_T36 x8_2 (ji38)).f0).toList)) = true
                                    · rw [if_pos c41] at H
                                      have c41b0 : (Op.bytesLess ((rd_T36 y155 x10_2).f0).toList (((rd_T36 x8_2 (ji38)).f0).toList)) = true := c41
                                      have cE1 := less_asymm_ c41b0
                                      have cE2 := bytes_ne_ (a := ((rd_T36 x8_2 (ji38)).f0).toList) (b := ((rd_T36 y155 x10_2).f0).toList) c41b0
                                      clear c41
                                      have H' := Aside0.mk H
                                      clear H
                                      have p166 : 0 ≤ ((ji38) : Int) := of_decide_eq_true (by first | (with_reducible assumption) | assumption)
                                      have q166 : (ji38) < (x8_2.length : Int) := of_decide_eq_true (by first | (with_reducible assumption) | assumption)
                                      obtain ⟨ad166, e166, hx166_0, hx166_1⟩ := at_T36 (Kd.R_reads' HO_8.out).2.2 (ji38) p166 q166
                                      cases e166
                                      replace p166 := eq_true p166
                                      replace q166 := eq_true q166
                                      go_wp2
                                      go_roundg k4
                                      case measure => have := HJ3.out; have := HK2.out; have := HJ29.out; have := HK4.out; omega
                                      case rel => exact ⟨(ji38), (by first | rfl | (simp; done) | (simp only [← hji38] <;> (first | rfl | simp)) | (simp [*]; done)), H', ⟨by have := HJ3.out; have := HK2.out; have := HJ29.out; have := HK4.out; omega⟩, ⟨by (with_reducible repeat (first | apply Kd.R_alloc | apply Kd.R_drewN | apply Kd.R_drew)); exact HO_8.out⟩, ⟨by (with_reducible repeat (first | apply Kd.R_alloc | apply Kd.R_drewN | apply Kd.R_drew)); exact HO_9.out⟩, ⟨by repeat (first | (with_reducible first | exact HB.out | apply below_alloc | apply pw_below_drewN | apply below_drew1) | exact HB.out)⟩⟩
                                    · rw [if_neg c41] at H
                                      have c41b0 : (Op.bytesLess ((rd_T36 y155 x10_2).f0).toList (((rd_T36 x8_2 (ji38)).f0).toList)) = false := by simpa using c41
                                      have cE1 := le_total_ c41b0
                                      have cE2 := le_total2_ c41b0
                                      clear c41
                                      by_cases c42 : 0 ≤ x13_4
                                      · rw [if_pos c42] at H
                                        have c42b0 := eq_true c42
                                        have c42b1 : decide (0 ≤ x13_4) = true := decide_eq_true c42
                                        clear c42
                                        by_cases c43 : x13_4 ≤ (x8_2.length : Int)
                                        · rw [if_pos c43] at H
                                          have c43b0 := eq_true c43
                                          have c43b1 : decide (x13_4 ≤ (x8_2.length : Int)) = true := decide_eq_true c43
                                          clear c43
                                          obtain ⟨y167, hy167⟩ : ∃ y_ : List (S36), y_ = (x8_2.take (x13_4 : Int).toNat) := ⟨_, rfl⟩
                                          replace H : ((some (x8_2.drop (x13_4 : Int).toNat : List (S36))).bind fun y171 => ((some (([] : List (S36)) : List (S36))).bind fun y175 => (if y175.length + y167.length < 5864062014805 then ((some (y175 ++ y167 : List (S36))).bind fun y178 => (if y178.length < 5864062014805 then ((some (y178 ++ [(⟨((rd_T36 y155 x10_2).f0), (wrap64 (Int.tdiv (wrap64 ((wrap64 ((wrap64 (t163 * (wrap64 (100 - a2)))) + (wrap64 (t164 * a2)))) + 99)) 100))⟩ : S36)] : List (S36))).bind fun y181 => (if y181.length + y171.length < 5864062014805 then (spec_MixRecipes.l0 k4 l0 l1 a2 (y181 ++ y171) y155 (wrap64 (x10_2 + 1))) else (none))) else (none))) else (none)))) = some (r1, r2) := by first | (rw [hy167]; with_reducible exact H) | (have H2_ := (Option.bind_some _ _).symm.trans H; rw [hy167]; with_reducible exact H2_) | (have H2_ := (Option.bind_some _ _).symm.trans H; with_reducible exact H2_) | with_reducible exact H | (rw [hy167]; exact H) | exact H
                                          have Ny167 := Aside0.mk hy167
                                          clear hy167
                                          have c44b0 := eq_true (of_decide_eq_true (by first | (with_reducible assumption) | assumption) : 0 ≤ x13_4)
                                          have c45b0 := eq_true (of_decide_eq_true (by first | (with_reducible assumption) | assumption) : x13_4 ≤ (x8_2.length : Int))
                                          obtain ⟨y171, hy171⟩ : ∃ y_ : List (S36), y_ = (x8_2.drop (x13_4 : Int).toNat) := ⟨_, rfl⟩
                                          replace H : ((some (([] : List (S36)) : List (S36))).bind fun y175 => (if y175.length + y167.length < 5864062014805 then ((some (y175 ++ y167 : List (S36))).bind fun y178 => (if y178.length < 5864062014805 then ((some (y178 ++ [(⟨((rd_T36 y155 x10_2).f0), (wrap64 (Int.tdiv (wrap64 ((wrap64 ((wrap64 (t163 * (wrap64 (100 - a2)))) + (wrap64 (t164 * a2)))) + 99)) 100))⟩ : S36)] : List (S36))).bind fun y181 => (if y181.length + y171.length < 5864062014805 then (spec_MixRecipes.l0 k4 l0 l1 a2 (y181 ++ y171) y155 (wrap64 (x10_2 + 1))) else (none))) else (none))) else (none))) = some (r1, r2) := by first | (rw [hy171]; with_reducible exact H) | (have H2_ := (Option.bind_some _ _).symm.trans H; rw [hy171]; with_reducible exact H2_) | (have H2_ := (Option.bind_some _ _).symm.trans H; with_reducible exact H2_) | with_reducible exact H | (rw [hy171]; exact H) | exact H
                                          have Ny171 := Aside0.mk hy171
                                          clear hy171
                                          obtain ⟨y175, hy175⟩ : ∃ y_ : List (S36), y_ = (([] : List (S36))) := ⟨_, rfl⟩
                                          replace H : (if y175.length + y167.length < 5864062014805 then ((some (y175 ++ y167 : List (S36))).bind fun y178 => (if y178.length < 5864062014805 then ((some (y178 ++ [(⟨((rd_T36 y155 x10_2).f0), (wrap64 (Int.tdiv (wrap64 ((wrap64 ((wrap64 (t163 * (wrap64 (100 - a2)))) + (wrap64 (t164 * a2)))) + 99)) 100))⟩ : S36)] : List (S36))).bind fun y181 => (if y181.length + y171.length < 5864062014805 then (spec_MixRecipes.l0 k4 l0 l1 a2 (y181 ++ y171) y155 (wrap64 (x10_2 + 1))) else (none))) else (none))) else (none)) = some (r1, r2) := by first | (rw [hy175]; with_reducible exact H) | (have H2_ := (Option.bind_some _ _).symm.trans H; rw [hy175]; with_reducible exact H2_) | (have H2_ := (Option.bind_some _ _).symm.trans H; with_reducible exact H2_) | with_reducible exact H | (rw [hy175]; exact H) | exact H
                                          have Ny175 := Aside0.mk hy175
                                          clear hy175
                                          by_cases c46 : y175.length + y167.length < 5864062014805
                                          · rw [if_pos c46] at H
                                            have LMc46 := Aside0.mk c46
                                            clear c46
                                            obtain ⟨y178, hy178⟩ : ∃ y_ : List (S36), y_ = (y175 ++ y167) := ⟨_, rfl⟩
                                            replace H : (if y178.length < 5864062014805 then ((some (y178 ++ [(⟨((rd_T36 y155 x10_2).f0), (wrap64 (Int.tdiv (wrap64 ((wrap64 ((wrap64 (t163 * (wrap64 (100 - a2)))) + (wrap64 (t164 * a2)))) + 99)) 100))⟩ : S36)] : List (S36))).bind fun y181 => (if y181.length + y171.length < 5864062014805 then (spec_MixRecipes.l0 k4 l0 l1 a2 (y181 ++ y171) y155 (wrap64 (x10_2 + 1))) else (none))) else (none)) = some (r1, r2) := by first | (rw [hy178]; with_reducible exact H) | (have H2_ := (Option.bind_some _ _).symm.trans H; rw [hy178]; with_reducible exact H2_) | (have H2_ := (Option.bind_some _ _).symm.trans H; with_reducible exact H2_) | with_reducible exact H | (rw [hy178]; exact H) | exact H
                                            have Ny178 := Aside0.mk hy178
                                            clear hy178
                                            by_cases c47 : y178.length < 5864062014805
                                            · rw [if_pos c47] at H
                                              have LMc47 := Aside0.mk c47
                                              clear c47
                                              obtain ⟨y181, hy181⟩ : ∃ y_ : List (S36), y_ = (y178 ++ [(⟨((rd_T36 y155 x10_2).f0), (wrap64 (Int.tdiv (wrap64 ((wrap64 ((wrap64 (t163 * (wrap64 (100 - a2)))) + (wrap64 (t164 * a2)))) + 99)) 100))⟩ : S36)]) := ⟨_, rfl⟩
                                              replace H : (if y181.length + y171.length < 5864062014805 then (spec_MixRecipes.l0 k4 l0 l1 a2 (y181 ++ y171) y155 (wrap64 (x10_2 + 1))) else (none)) = some (r1, r2) := by first | (rw [hy181]; with_reducible exact H) | (have H2_ := (Option.bind_some _ _).symm.trans H; rw [hy181]; with_reducible exact H2_) | (have H2_ := (Option.bind_some _ _).symm.trans H; with_reducible exact H2_) | with_reducible exact H | (rw [hy181]; exact H) | exact H
                                              have Ny181 := Aside0.mk hy181
                                              clear hy181
                                              by_cases c48 : y181.length + y171.length < 5864062014805
                                              · rw [if_pos c48] at H
                                                have LMc48 := Aside0.mk c48
                                                clear c48
                                                obtain ⟨y184, hy184⟩ : ∃ y_ : List (S36), y_ = (y181 ++ y171) := ⟨_, rfl⟩
                                                replace H : (spec_MixRecipes.l0 k4 l0 l1 a2 y184 y155 (wrap64 (x10_2 + 1))) = some (r1, r2) := by first | (rw [hy184]; with_reducible exact H) | (have H2_ := (Option.bind_some _ _).symm.trans H; rw [hy184]; with_reducible exact H2_) | (have H2_ := (Option.bind_some _ _).symm.trans H; with_reducible exact H2_) | with_reducible exact H | (rw [hy184]; exact H) | exact H
                                                have Ny184 := Aside0.mk hy184
                                                clear hy184
                                                have H' := Aside0.mk H
                                                clear H
                                                have p166 : 0 ≤ ((ji38) : Int) := of_decide_eq_true (by first | (with_reducible assumption) | assumption)
                                                have q166 : (ji38) < (x8_2.length : Int) := of_decide_eq_true (by first | (with_reducible assumption) | assumption)
                                                obtain ⟨ad166, e166, hx166_0, hx166_1⟩ := at_T36 (Kd.R_reads' HO_8.out).2.2 (ji38) p166 q166
                                                cases e166
                                                replace p166 := eq_true p166
                                                replace q166 := eq_true q166
                                                have q49 : (x13_4 : Int) ≤ ((x8_2.length : Int) : Int) := of_decide_eq_true (by first | (with_reducible assumption) | assumption)
                                                obtain ⟨i049, hi049, _, hsz49, _⟩ := info_parts info36
                                                have hroom49 : x8_2.length ≤ co36 := (Kd.R_reads' HO_8.out).2.1
                                                have hC49 : Kd.C k36 _ (some ad166) x8_2.length x8_2 := (Kd.R_reads' HO_8.out).2.2
                                                have hcut49 := cut_to (P := Tryd.prog) 24 36 .i64 Tryd.underlying24 hi049 (some ad166) x8_2.length co36 x13_4 (of_decide_eq_true (by first | (with_reducible assumption) | assumption)) q49 hroom49
                                                have hr49 := Kd.C_take (m := (x13_4 : Int).toNat) hC49 (by omega)
                                                have hy49 : y167.length = (x13_4 : Int).toNat := (by rw [Ny167.out, List.length_take]; omega)
                                                rw [← Ny167.out] at hr49
                                                rw [← hy49] at hcut49
                                                have HR170 := Aside0.mk hr49
                                                have HC170 := Aside0.mk (show y167.length ≤ co36 from by omega)
                                                clear hr49 hC49 hroom49 hi049 hsz49
                                                have KY49 := Aside0.mk hy49
                                                clear hy49
                                                have KL49 := Aside0.mk (show (x13_4 : Int).toNat ≤ x8_2.length from by omega)
                                                replace q49 := eq_true q49
                                                have q50 : (x13_4 : Int) ≤ ((x8_2.length : Int) : Int) := of_decide_eq_true (by first | (with_reducible assumption) | assumption)
                                                obtain ⟨i050, hi050, _, hsz50, _⟩ := info_parts info36
                                                have hroom50 : x8_2.length ≤ co36 := (Kd.R_reads' HO_8.out).2.1
                                                have hC50 : Kd.C k36 _ (some ad166) x8_2.length x8_2 := (Kd.R_reads' HO_8.out).2.2
                                                have q050 : (0 : Int) ≤ (x13_4 : Int) := of_decide_eq_true (by first | (with_reducible assumption) | assumption)
                                                have hcut50 := cut_from (P := Tryd.prog) 24 36 .i64 Tryd.underlying24 hi050 2 hsz50 (some ad166) x8_2.length co36 x13_4 q050 q50
                                                have hr50 := Kd.C_drop (m := (x13_4 : Int).toNat) (c := co36) hC50 (by omega) hroom50
                                                obtain ⟨A50, hA50⟩ : ∃ A1, A1 = (if co36 = (x13_4 : Int).toNat then (some ad166) else ((some ad166) : Option Addr).map (·.add ((x13_4 : Int).toNat * 2))) := ⟨_, rfl⟩
                                                obtain ⟨c50, hc50⟩ : ∃ c1, c1 = co36 - (x13_4 : Int).toNat := ⟨_, rfl⟩
                                                have hy50 : y171.length = x8_2.length - (x13_4 : Int).toNat := (by rw [Ny171.out, List.length_drop] <;> omega)
                                                rw [show (x8_2).drop (x13_4 : Int).toNat = y171 from Ny171.out.symm] at hr50
                                                replace hr50 : Kd.C k36 _ A50 y171.length y171 := (by rw [hA50]; exact hr50)
                                                rw [← hy50, ← hA50, ← hc50] at hcut50
                                                have HR174 := Aside0.mk hr50
                                                have HC174 := Aside0.mk (show y171.length ≤ c50 from by rw [hy50, hc50]; exact Nat.sub_le_sub_right hroom50 _)
                                                clear hr50 hC50 hroom50 hi050 hsz50 hc50
                                                have KY50 := Aside0.mk hy50
                                                have KA50 := Aside0.mk hA50
                                                clear hy50 hA50
                                                have KL50 := Aside0.mk (show (x13_4 : Int).toNat ≤ x8_2.length from by omega)
                                                replace q50 := eq_true q50
                                                go_wp2_with (fail)
                                                obtain ⟨NN, hN_, h8_⟩ := exN HO_8.out
                                                have h9_ := ltN HO_9.out hN_
                                                have HN := Aside0.mk hN_
                                                have HNle := Aside0.mk (Nat.le_of_eq hN_)
                                                have W0le : Aside0 (w.heap.size ≤ NN) := ⟨by rw [hN_]; exact below_size HB.out⟩
                                                clear HO_8 HO_9
                                                have HO_8 := Aside0.mk h8_
                                                have HO_9 := Aside0.mk h9_
                                                clear h8_ h9_ hN_
                                                go_region_law (first | (refine Kd.R_append_rows_step k36 (w0 := w) w.heap.size ?hw (.tmp 83) (.tmp 86) 24 36 (.agg #[(.string ⟨#[]⟩), (.int .i64 0)]) 24 rfl Tryd.underlying24 info36 rfl (by decide) (by omega) _ ([] : List S36) y167 _ _ _ (fun k_ => NN ≤ k_) (fun _ => False) rfl rfl ?aO ?aR (fun _ _ h => h) (fun _ h => h.elim) ?aF ?aB ?aS ?aL ?_; (case hw => first | rfl | kernel_rfl); (case aO => exact (R_blk (xs := ([] : List S36)) (inner := []) (by have := W0le.out; have := HN.out; (first | (simp only [size_alloc_, drew_heap_]; done) | ((try simp only [size_alloc_, drew_heap_]); omega))) (by have := HN.out; ((try simp only [drew_heap_]); first | exact get_alloc_ _ _ (by first | rfl | (first | (simp only [size_alloc_, drew_heap_]; done) | ((try simp only [size_alloc_, drew_heap_]); omega))) | (rw [get_old_ _ _ (by (first | (simp only [size_alloc_, drew_heap_]; done) | ((try simp only [size_alloc_, drew_heap_]); omega)))]; (try simp only [drew_heap_]); exact get_alloc_ _ _ (by first | rfl | (first | (simp only [size_alloc_, drew_heap_]; done) | ((try simp only [size_alloc_, drew_heap_]); omega)))))) rfl rfl (Reps.none _ _) (by have := HN.out; (first | (simp only [size_alloc_, drew_heap_]; done) | ((try simp only [size_alloc_, drew_heap_]); omega))) (by decide))); (case aR => exact (show Kd.C k36 _ (some ad166) y167.length y167 from by rw [Ny167.out]; exact Kd.C_take (m := (x13_4 : Int).toNat) ((Kd.R_reads' (by (with_reducible repeat (first | apply Kd.R_alloc | apply Kd.R_drewN | apply Kd.R_drew)); exact HO_8.out)).2.2) KL49.out)); (case aF => exact (fun k_ hk => Nat.le_trans (by first | exact HNle.out | (have := HNle.out; (first | (simp only [size_alloc_, drew_heap_]; done) | ((try simp only [size_alloc_, drew_heap_]); omega)))) hk)); (case aB => exact (by repeat (first | (with_reducible first | exact HB.out | apply below_alloc | apply pw_below_drewN | apply below_drew1) | exact HB.out))); (case aS => exact (below_size (by repeat (first | (with_reducible first | exact HB.out | apply below_alloc | apply pw_below_drewN | apply below_drew1) | exact HB.out)))); (case aL => have := LMc46.out; (try simp only [List.length_nil, List.length_singleton]); omega); intro vX wX ho hb hg hat; rw [show ([] : List S36) ++ y167 = y175 ++ y167 by rw [Ny175.out]] at ho; rw [← Ny178.out] at ho; have n0_ := Aside0.mk (Kd.R_grown (by (with_reducible repeat (first | apply Kd.R_alloc | apply Kd.R_drewN | apply Kd.R_drew)); exact HO_8.out) hg (fun k_ hk => own_ne_ (by have h1_ := hk.2; have h2_ := HN.out; (first | (simp only [size_alloc_, drew_heap_]; done) | ((try simp only [size_alloc_, drew_heap_]); omega))))); have n1_ := Aside0.mk (Kd.R_grown (by (with_reducible repeat (first | apply Kd.R_alloc | apply Kd.R_drewN | apply Kd.R_drew)); exact HO_9.out) hg (fun k_ hk => own_ne_ (by have h1_ := hk.2; have h2_ := HN.out; (first | (simp only [size_alloc_, drew_heap_]; done) | ((try simp only [size_alloc_, drew_heap_]); omega))))); have n2_ := Aside0.mk hb; have n3_ := Aside0.mk (Nat.le_trans (show NN ≤ _ from (by first | exact HNle.out | (have := HNle.out; (first | (simp only [size_alloc_, drew_heap_]; done) | ((try simp only [size_alloc_, drew_heap_]); omega))))) hg.size); (try have H91 := (hg.block (NN + 1) (by have := HN.out; (first | (simp only [size_alloc_, drew_heap_]; done) | ((try simp only [size_alloc_, drew_heap_]); omega))) (own_ne_ (by have := HN.out; (first | (simp only [size_alloc_, drew_heap_]; done) | ((try simp only [size_alloc_, drew_heap_]); omega))))).trans (show _ = some (Obj.cells ([.string ((rd_T36 y155 x10_2).f0), .int .i64 (wrap64 (Int.tdiv (wrap64 ((wrap64 ((wrap64 (t163 * (wrap64 (100 - a2)))) + (wrap64 (t164 * a2)))) + 99)) 100))] : List Value).toArray 36 (0, 0)) from by have := HN.out; ((try simp only [drew_heap_]); first | exact get_alloc_ _ _ (by first | rfl | (first | (simp only [size_alloc_, drew_heap_]; done) | ((try simp only [size_alloc_, drew_heap_]); omega))) | (rw [get_old_ _ _ (by (first | (simp only [size_alloc_, drew_heap_]; done) | ((try simp only [size_alloc_, drew_heap_]); omega)))]; (try simp only [drew_heap_]); exact get_alloc_ _ _ (by first | rfl | (first | (simp only [size_alloc_, drew_heap_]; done) | ((try simp only [size_alloc_, drew_heap_]); omega))))))); (try have H91 := (hg.block (NN) (by have := HN.out; (first | (simp only [size_alloc_, drew_heap_]; done) | ((try simp only [size_alloc_, drew_heap_]); omega))) (own_ne_ (by have := HN.out; (first | (simp only [size_alloc_, drew_heap_]; done) | ((try simp only [size_alloc_, drew_heap_]); omega))))).trans (show _ = some (Obj.cells ([.string ((rd_T36 y155 x10_2).f0), .int .i64 (wrap64 (Int.tdiv (wrap64 ((wrap64 ((wrap64 (t163 * (wrap64 (100 - a2)))) + (wrap64 (t164 * a2)))) + 99)) 100))] : List Value).toArray 36 (0, 0)) from by have := HN.out; ((try simp only [drew_heap_]); first | exact get_alloc_ _ _ (by first | rfl | (first | (simp only [size_alloc_, drew_heap_]; done) | ((try simp only [size_alloc_, drew_heap_]); omega))) | (rw [get_old_ _ _ (by (first | (simp only [size_alloc_, drew_heap_]; done) | ((try simp only [size_alloc_, drew_heap_]); omega)))]; (try simp only [drew_heap_]); exact get_alloc_ _ _ (by first | rfl | (first | (simp only [size_alloc_, drew_heap_]; done) | ((try simp only [size_alloc_, drew_heap_]); omega))))))); have n4_ := Aside0.mk ho; clear HO_8 HO_9 HB HNle; (try clear HX); have HO_8 := n0_; have HO_9 := n1_; have HB := n2_; have HNle := n3_; have HX := n4_; clear n0_ n1_ n2_ n3_ n4_; clear ho hb hg hat) | (refine Kd.R_append_rows_step k36 (w0 := w) w.heap.size ?hw (.tmp 87) (.tmp 91) 24 36 (.agg #[(.string ⟨#[]⟩), (.int .i64 0)]) 24 rfl Tryd.underlying24 info36 rfl (by decide) (by omega) _ y178 [(⟨((rd_T36 y155 x10_2).f0), (wrap64 (Int.tdiv (wrap64 ((wrap64 ((wrap64 (t163 * (wrap64 (100 - a2)))) + (wrap64 (t164 * a2)))) + 99)) 100))⟩ : S36)] _ _ _ (fun k_ => NN ≤ k_) (fun _ => False) rfl rfl ?aO ?aR (fun _ _ h => h) (fun _ h => h.elim) ?aF ?aB ?aS ?aL ?_; (case hw => first | rfl | kernel_rfl); (case aO => exact (by (with_reducible repeat (first | apply Kd.R_alloc | apply Kd.R_drewN | apply Kd.R_drew)); exact HX.out)); (case aR => exact (Kd.R_reads' (R_blk (d := k36) (base := 0) (ok := fun _ => True) (xs := [(⟨((rd_T36 y155 x10_2).f0), (wrap64 (Int.tdiv (wrap64 ((wrap64 ((wrap64 (t163 * (wrap64 (100 - a2)))) + (wrap64 (t164 * a2)))) + 99)) 100))⟩ : S36)]) (inner := [.string ((rd_T36 y155 x10_2).f0), .int .i64 (wrap64 (Int.tdiv (wrap64 ((wrap64 ((wrap64 (t163 * (wrap64 (100 - a2)))) + (wrap64 (t164 * a2)))) + 99)) 100))]) (Nat.zero_le _) (by first | exact at_of_ H91 (by have := HN.out; (first | (simp only [size_alloc_, drew_heap_]; done) | ((try simp only [size_alloc_, drew_heap_]); omega))) | (have := HN.out; ((try simp only [drew_heap_]); first | exact get_alloc_ _ _ (by first | rfl | (first | (simp only [size_alloc_, drew_heap_]; done) | ((try simp only [size_alloc_, drew_heap_]); omega))) | (rw [get_old_ _ _ (by (first | (simp only [size_alloc_, drew_heap_]; done) | ((try simp only [size_alloc_, drew_heap_]); omega)))]; (try simp only [drew_heap_]); exact get_alloc_ _ _ (by first | rfl | (first | (simp only [size_alloc_, drew_heap_]; done) | ((try simp only [size_alloc_, drew_heap_]); omega))))))) rfl rfl (one_reps _ _ (⟨((rd_T36 y155 x10_2).f0), (wrap64 (Int.tdiv (wrap64 ((wrap64 ((wrap64 (t163 * (wrap64 (100 - a2)))) + (wrap64 (t164 * a2)))) + 99)) 100))⟩ : S36)) trivial (show 1 ≤ 1000 by decide))).2.2); (case aF => exact (fun k_ hk => Nat.le_trans (by first | exact HNle.out | (have := HNle.out; (first | (simp only [size_alloc_, drew_heap_]; done) | ((try simp only [size_alloc_, drew_heap_]); omega)))) hk)); (case aB => exact (by repeat (first | (with_reducible first | exact HB.out | apply below_alloc | apply pw_below_drewN | apply below_drew1) | exact HB.out))); (case aS => exact (below_size (by repeat (first | (with_reducible first | exact HB.out | apply below_alloc | apply pw_below_drewN | apply below_drew1) | exact HB.out)))); (case aL => have := LMc47.out; (try simp only [List.length_nil, List.length_singleton]); omega); intro vX wX ho hb hg hat; rw [← Ny181.out] at ho; have n0_ := Aside0.mk (Kd.R_grown (by (with_reducible repeat (first | apply Kd.R_alloc | apply Kd.R_drewN | apply Kd.R_drew)); exact HO_8.out) hg (fun k_ hk => (by exact low_ne HX.out hk.2))); have n1_ := Aside0.mk (Kd.R_grown (by (with_reducible repeat (first | apply Kd.R_alloc | apply Kd.R_drewN | apply Kd.R_drew)); exact HO_9.out) hg (fun k_ hk => (by exact low_ne HX.out hk.2))); have n2_ := Aside0.mk hb; have n3_ := Aside0.mk (Nat.le_trans (show NN ≤ _ from (by first | exact HNle.out | (have := HNle.out; (first | (simp only [size_alloc_, drew_heap_]; done) | ((try simp only [size_alloc_, drew_heap_]); omega))))) hg.size); have n4_ := Aside0.mk ho; clear HO_8 HO_9 HB HNle; (try clear HX); have HO_8 := n0_; have HO_9 := n1_; have HB := n2_; have HNle := n3_; have HX := n4_; clear n0_ n1_ n2_ n3_ n4_; clear ho hb hg hat) | (refine Kd.R_append_rows_step k36 (w0 := w) w.heap.size ?hw (.tmp 92) (.tmp 95) 24 36 (.agg #[(.string ⟨#[]⟩), (.int .i64 0)]) 24 rfl Tryd.underlying24 info36 rfl (by decide) (by omega) _ y181 y171 _ _ _ (fun k_ => NN ≤ k_) (fun _ => False) rfl rfl ?aO ?aR (fun _ _ h => h) (fun _ h => h.elim) ?aF ?aB ?aS ?aL ?_; (case hw => first | rfl | kernel_rfl); (case aO => exact (by (with_reducible repeat (first | apply Kd.R_alloc | apply Kd.R_drewN | apply Kd.R_drew)); exact HX.out)); (case aR => exact (show Kd.C k36 _ A50 y171.length y171 from by rw [Ny171.out, KA50.out]; exact Kd.C_drop (m := (x13_4 : Int).toNat) (c := co36) ((Kd.R_reads' (by (with_reducible repeat (first | apply Kd.R_alloc | apply Kd.R_drewN | apply Kd.R_drew)); exact HO_8.out)).2.2) KL50.out ((Kd.R_reads' HO_8.out).2.1))); (case aF => exact (fun k_ hk => Nat.le_trans (by first | exact HNle.out | (have := HNle.out; (first | (simp only [size_alloc_, drew_heap_]; done) | ((try simp only [size_alloc_, drew_heap_]); omega)))) hk)); (case aB => exact (by repeat (first | (with_reducible first | exact HB.out | apply below_alloc | apply pw_below_drewN | apply below_drew1) | exact HB.out))); (case aS => exact (below_size (by repeat (first | (with_reducible first | exact HB.out | apply below_alloc | apply pw_below_drewN | apply below_drew1) | exact HB.out)))); (case aL => have := LMc48.out; (try simp only [List.length_nil, List.length_singleton]); omega); intro vX wX ho hb hg hat; rw [← Ny184.out] at ho; have n0_ := Aside0.mk (Kd.R_grown (by (with_reducible repeat (first | apply Kd.R_alloc | apply Kd.R_drewN | apply Kd.R_drew)); exact HO_8.out) hg (fun k_ hk => (by exact low_ne HX.out hk.2))); have n1_ := Aside0.mk (Kd.R_grown (by (with_reducible repeat (first | apply Kd.R_alloc | apply Kd.R_drewN | apply Kd.R_drew)); exact HO_9.out) hg (fun k_ hk => (by exact low_ne HX.out hk.2))); have n2_ := Aside0.mk hb; have n3_ := Aside0.mk (Nat.le_trans (show NN ≤ _ from (by first | exact HNle.out | (have := HNle.out; (first | (simp only [size_alloc_, drew_heap_]; done) | ((try simp only [size_alloc_, drew_heap_]); omega))))) hg.size); have n4_ := Aside0.mk ho; clear HO_8 HO_9 HB HNle; (try clear HX); have HO_8 := n0_; have HO_9 := n1_; have HB := n2_; have HNle := n3_; have HX := n4_; clear n0_ n1_ n2_ n3_ n4_; clear ho hb hg hat))
                                                all_goals (go_wp2_with (fail); go_roundg k4; (case measure => have := HJ3.out; have := HK2.out; have := HJ29.out; have := HK4.out; omega); (case rel => exact ⟨(y184), (wrap64 (x10_2 + 1)), (by first | rfl | (simp; done) | (simp [*]; done)), H', ⟨by have := HJ3.out; have := HK2.out; have := HJ29.out; have := HK4.out; omega⟩, ⟨Kd.R_mono HX.out (fun k_ hk => by intro e_; have h_ := (HO_9.out.1 k_ e_.symm).2; omega)⟩, ⟨Kd.R_mono HO_9.out (fun k_ hk => low_ne HX.out hk.2)⟩, ⟨HB.out⟩⟩))
                                              · rw [if_neg c48] at H
                                                exact absurd H (by simp)
                                            · rw [if_neg c47] at H
                                              exact absurd H (by simp)
                                          · rw [if_neg c46] at H
                                            exact absurd H (by simp)
                                        · rw [if_neg c43] at H
                                          exact absurd H (by simp)
                                      · rw [if_neg c42] at H
                                        exact absurd H (by simp)
                                  · rw [if_neg c40] at H
                                    exact absurd H (by simp)
                                · rw [if_neg c39] at H
                                  exact absurd H (by simp)
                              · rw [if_neg c37] at H
                                have c37b0 : decide (0 < x13_4) = false := decide_eq_false c37
                                clear c37
                                by_cases c56 : 0 ≤ x13_4
                                · rw [if_pos c56] at H
                                  have c56b0 := eq_true c56
                                  have c56b1 : decide (0 ≤ x13_4) = true := decide_eq_true c56
                                  clear c56
                                  by_cases c57 : x13_4 ≤ (x8_2.length : Int)
                                  · rw [if_pos c57] at H
                                    have c57b0 := eq_true c57
                                    have c57b1 : decide (x13_4 ≤ (x8_2.length : Int)) = true := decide_eq_true c57
                                    clear c57
                                    obtain ⟨y187, hy187⟩ : ∃ y_ : List (S36), y_ = (x8_2.take (x13_4 : Int).toNat) := ⟨_, rfl⟩
                                    replace H : ((some (x8_2.drop (x13_4 : Int).toNat : List (S36))).bind fun y191 => ((some (([] : List (S36)) : List (S36))).bind fun y195 => (if y195.length + y187.length < 5864062014805 then ((some (y195 ++ y187 : List (S36))).bind fun y198 => (if y198.length < 5864062014805 then ((some (y198 ++ [(⟨((rd_T36 y155 x10_2).f0), (wrap64 (Int.tdiv (wrap64 ((wrap64 ((wrap64 (t163 * (wrap64 (100 - a2)))) + (wrap64 (t164 * a2)))) + 99)) 100))⟩ : S36)] : List (S36))).bind fun y201 => (if y201.length + y191.length < 5864062014805 then (spec_MixRecipes.l0 k4 l0 l1 a2 (y201 ++ y191) y155 (wrap64 (x10_2 + 1))) else (none))) else (none))) else (none)))) = some (r1, r2) := by first | (rw [hy187]; with_reducible exact H) | (have H2_ := (Option.bind_some _ _).symm.trans H; rw [hy187]; with_reducible exact H2_) | (have H2_ := (Option.bind_some _ _).symm.trans H; with_reducible exact H2_) | with_reducible exact H | (rw [hy187]; exact H) | exact H
                                    have Ny187 := Aside0.mk hy187
                                    clear hy187
                                    have c58b0 := eq_true (of_decide_eq_true (by first | (with_reducible assumption) | assumption) : 0 ≤ x13_4)
                                    have c59b0 := eq_true (of_decide_eq_true (by first | (with_reducible assumption) | assumption) : x13_4 ≤ (x8_2.length : Int))
                                    obtain ⟨y191, hy191⟩ : ∃ y_ : List (S36), y_ = (x8_2.drop (x13_4 : Int).toNat) := ⟨_, rfl⟩
                                    replace H : ((some (([] : List (S36)) : List (S36))).bind fun y195 => (if y195.length + y187.length < 5864062014805 then ((some (y195 ++ y187 : List (S36))).bind fun y198 => (if y198.length < 5864062014805 then ((some (y198 ++ [(⟨((rd_T36 y155 x10_2).f0), (wrap64 (Int.tdiv (wrap64 ((wrap64 ((wrap64 (t163 * (wrap64 (100 - a2)))) + (wrap64 (t164 * a2)))) + 99)) 100))⟩ : S36)] : List (S36))).bind fun y201 => (if y201.length + y191.length < 5864062014805 then (spec_MixRecipes.l0 k4 l0 l1 a2 (y201 ++ y191) y155 (wrap64 (x10_2 + 1))) else (none))) else (none))) else (none))) = some (r1, r2) := by first | (rw [hy191]; with_reducible exact H) | (have H2_ := (Option.bind_some _ _).symm.trans H; rw [hy191]; with_reducible exact H2_) | (have H2_ := (Option.bind_some _ _).symm.trans H; with_reducible exact H2_) | with_reducible exact H | (rw [hy191]; exact H) | exact H
                                    have Ny191 := Aside0.mk hy191
                                    clear hy191
                                    obtain ⟨y195, hy195⟩ : ∃ y_ : List (S36), y_ = (([] : List (S36))) := ⟨_, rfl⟩
                                    replace H : (if y195.length + y187.length < 5864062014805 then ((some (y195 ++ y187 : List (S36))).bind fun y198 => (if y198.length < 5864062014805 then ((some (y198 ++ [(⟨((rd_T36 y155 x10_2).f0), (wrap64 (Int.tdiv (wrap64 ((wrap64 ((wrap64 (t163 * (wrap64 (100 - a2)))) + (wrap64 (t164 * a2)))) + 99)) 100))⟩ : S36)] : List (S36))).bind fun y201 => (if y201.length + y191.length < 5864062014805 then (spec_MixRecipes.l0 k4 l0 l1 a2 (y201 ++ y191) y155 (wrap64 (x10_2 + 1))) else (none))) else (none))) else (none)) = some (r1, r2) := by first | (rw [hy195]; with_reducible exact H) | (have H2_ := (Option.bind_some _ _).symm.trans H; rw [hy195]; with_reducible exact H2_) | (have H2_ := (Option.bind_some _ _).symm.trans H; with_reducible exact H2_) | with_reducible exact H | (rw [hy195]; exact H) | exact H
                                    have Ny195 := Aside0.mk hy195
                                    clear hy195
                                    by_cases c60 : y195.length + y187.length < 5864062014805
                                    · rw [if_pos c60] at H
                                      have LMc60 := Aside0.mk c60
                                      clear c60
                                      obtain ⟨y198, hy198⟩ : ∃ y_ : List (S36), y_ = (y195 ++ y187) := ⟨_, rfl⟩
                                      replace H : (if y198.length < 5864062014805 then ((some (y198 ++ [(⟨((rd_T36 y155 x10_2).f0), (wrap64 (Int.tdiv (wrap64 ((wrap64 ((wrap64 (t163 * (wrap64 (100 - a2)))) + (wrap64 (t164 * a2)))) + 99)) 100))⟩ : S36)] : List (S36))).bind fun y201 => (if y201.length + y191.length < 5864062014805 then (spec_MixRecipes.l0 k4 l0 l1 a2 (y201 ++ y191) y155 (wrap64 (x10_2 + 1))) else (none))) else (none)) = some (r1, r2) := by first | (rw [hy198]; with_reducible exact H) | (have H2_ := (Option.bind_some _ _).symm.trans H; rw [hy198]; with_reducible exact H2_) | (have H2_ := (Option.bind_some _ _).symm.trans H; with_reducible exact H2_) | with_reducible exact H | (rw [hy198]; exact H) | exact H
                                      have Ny198 := Aside0.mk hy198
                                      clear hy198
                                      by_cases c61 : y198.length < 5864062014805
                                      · rw [if_pos c61] at H
                                        have LMc61 := Aside0.mk c61
                                        clear c61
                                        obtain ⟨y201, hy201⟩ : ∃ y_ : List (S36), y_ = (y198 ++ [(⟨((rd_T36 y155 x10_2).f0), (wrap64 (Int.tdiv (wrap64 ((wrap64 ((wrap64 (t163 * (wrap64 (100 - a2)))) + (wrap64 (t164 * a2)))) + 99)) 100))⟩ : S36)]) := ⟨_, rfl⟩
                                        replace H : (if y201.length + y191.length < 5864062014805 then (spec_MixRecipes.l0 k4 l0 l1 a2 (y201 ++ y191) y155 (wrap64 (x10_2 + 1))) else (none)) = some (r1, r2) := by first | (rw [hy201]; with_reducible exact H) | (have H2_ := (Option.bind_some _ _).symm.trans H; rw [hy201]; with_reducible exact H2_) | (have H2_ := (Option.bind_some _ _).symm.trans H; with_reducible exact H2_) | with_reducible exact H | (rw [hy201]; exact H) | exact H
                                        have Ny201 := Aside0.mk hy201
                                        clear hy201
                                        by_cases c62 : y201.length + y191.length < 5864062014805
                                        · rw [if_pos c62] at H
                                          have LMc62 := Aside0.mk c62
                                          clear c62
                                          obtain ⟨y204, hy204⟩ : ∃ y_ : List (S36), y_ = (y201 ++ y191) := ⟨_, rfl⟩
                                          replace H : (spec_MixRecipes.l0 k4 l0 l1 a2 y204 y155 (wrap64 (x10_2 + 1))) = some (r1, r2) := by first | (rw [hy204]; with_reducible exact H) | (have H2_ := (Option.bind_some _ _).symm.trans H; rw [hy204]; with_reducible exact H2_) | (have H2_ := (Option.bind_some _ _).symm.trans H; with_reducible exact H2_) | with_reducible exact H | (rw [hy204]; exact H) | exact H
                                          have Ny204 := Aside0.mk hy204
                                          clear hy204
                                          have H' := Aside0.mk H
                                          clear H
                                          have q63 : (x13_4 : Int) ≤ ((x8_2.length : Int) : Int) := of_decide_eq_true (by first | (with_reducible assumption) | assumption)
                                          obtain ⟨i063, hi063, _, hsz63, _⟩ := info_parts info36
                                          have hroom63 : x8_2.length ≤ co36 := (Kd.R_reads' HO_8.out).2.1
                                          have hC63 : Kd.C k36 _ Ao36 x8_2.length x8_2 := (Kd.R_reads' HO_8.out).2.2
                                          have hcut63 := cut_to (P := Tryd.prog) 24 36 .i64 Tryd.underlying24 hi063 Ao36 x8_2.length co36 x13_4 (of_decide_eq_true (by first | (with_reducible assumption) | assumption)) q63 hroom63
                                          have hr63 := Kd.C_take (m := (x13_4 : Int).toNat) hC63 (by omega)
                                          have hy63 : y187.length = (x13_4 : Int).toNat := (by rw [Ny187.out, List.length_take]; omega)
                                          rw [← Ny187.out] at hr63
                                          rw [← hy63] at hcut63
                                          have HR190 := Aside0.mk hr63
                                          have HC190 := Aside0.mk (show y187.length ≤ co36 from by omega)
                                          clear hr63 hC63 hroom63 hi063 hsz63
                                          have KY63 := Aside0.mk hy63
                                          clear hy63
                                          have KL63 := Aside0.mk (show (x13_4 : Int).toNat ≤ x8_2.length from by omega)
                                          replace q63 := eq_true q63
                                          have q64 : (x13_4 : Int) ≤ ((x8_2.length : Int) : Int) := of_decide_eq_true (by first | (with_reducible assumption) | assumption)
                                          obtain ⟨i064, hi064, _, hsz64, _⟩ := info_parts info36
                                          have hroom64 : x8_2.length ≤ co36 := (Kd.R_reads' HO_8.out).2.1
                                          have hC64 : Kd.C k36 _ Ao36 x8_2.length x8_2 := (Kd.R_reads' HO_8.out).2.2
                                          have q064 : (0 : Int) ≤ (x13_4 : Int) := of_decide_eq_true (by first | (with_reducible assumption) | assumption)
                                          have hcut64 := cut_from (P := Tryd.prog) 24 36 .i64 Tryd.underlying24 hi064 2 hsz64 Ao36 x8_2.length co36 x13_4 q064 q64
                                          have hr64 := Kd.C_drop (m := (x13_4 : Int).toNat) (c := co36) hC64 (by omega) hroom64
                                          obtain ⟨A64, hA64⟩ : ∃ A1, A1 = (if co36 = (x13_4 : Int).toNat then Ao36 else (Ao36 : Option Addr).map (·.add ((x13_4 : Int).toNat * 2))) := ⟨_, rfl⟩
                                          obtain ⟨c64, hc64⟩ : ∃ c1, c1 = co36 - (x13_4 : Int).toNat := ⟨_, rfl⟩
                                          have hy64 : y191.length = x8_2.length - (x13_4 : Int).toNat := (by rw [Ny191.out, List.length_drop] <;> omega)
                                          rw [show (x8_2).drop (x13_4 : Int).toNat = y191 from Ny191.out.symm] at hr64
                                          replace hr64 : Kd.C k36 _ A64 y191.length y191 := (by rw [hA64]; exact hr64)
                                          rw [← hy64, ← hA64, ← hc64] at hcut64
                                          have HR194 := Aside0.mk hr64
                                          have HC194 := Aside0.mk (show y191.length ≤ c64 from by rw [hy64, hc64]; exact Nat.sub_le_sub_right hroom64 _)
                                          clear hr64 hC64 hroom64 hi064 hsz64 hc64
                                          have KY64 := Aside0.mk hy64
                                          have KA64 := Aside0.mk hA64
                                          clear hy64 hA64
                                          have KL64 := Aside0.mk (show (x13_4 : Int).toNat ≤ x8_2.length from by omega)
                                          replace q64 := eq_true q64
                                          go_wp2_with (fail)
                                          obtain ⟨NN, hN_, h8_⟩ := exN HO_8.out
                                          have h9_ := ltN HO_9.out hN_
                                          have HN := Aside0.mk hN_
                                          have HNle := Aside0.mk (Nat.le_of_eq hN_)
                                          have W0le : Aside0 (w.heap.size ≤ NN) := ⟨by rw [hN_]; exact below_size HB.out⟩
                                          clear HO_8 HO_9
                                          have HO_8 := Aside0.mk h8_
                                          have HO_9 := Aside0.mk h9_
                                          clear h8_ h9_ hN_
                                          go_region_law (first | (refine Kd.R_append_rows_step k36 (w0 := w) w.heap.size ?hw (.tmp 83) (.tmp 86) 24 36 (.agg #[(.string ⟨#[]⟩), (.int .i64 0)]) 24 rfl Tryd.underlying24 info36 rfl (by decide) (by omega) _ ([] : List S36) y187 _ _ _ (fun k_ => NN ≤ k_) (fun _ => False) rfl rfl ?aO ?aR (fun _ _ h => h) (fun _ h => h.elim) ?aF ?aB ?aS ?aL ?_; (case hw => first | rfl | kernel_rfl); (case aO => exact (R_blk (xs := ([] : List S36)) (inner := []) (by have := W0le.out; have := HN.out; (first | (simp only [size_alloc_, drew_heap_]; done) | ((try simp only [size_alloc_, drew_heap_]); omega))) (by have := HN.out; ((try simp only [drew_heap_]); first | exact get_alloc_ _ _ (by first | rfl | (first | (simp only [size_alloc_, drew_heap_]; done) | ((try simp only [size_alloc_, drew_heap_]); omega))) | (rw [get_old_ _ _ (by (first | (simp only [size_alloc_, drew_heap_]; done) | ((try simp only [size_alloc_, drew_heap_]); omega)))]; (try simp only [drew_heap_]); exact get_alloc_ _ _ (by first | rfl | (first | (simp only [size_alloc_, drew_heap_]; done) | ((try simp only [size_alloc_, drew_heap_]); omega)))))) rfl rfl (Reps.none _ _) (by have := HN.out; (first | (simp only [size_alloc_, drew_heap_]; done) | ((try simp only [size_alloc_, drew_heap_]); omega))) (by decide))); (case aR => exact (show Kd.C k36 _ Ao36 y187.length y187 from by rw [Ny187.out]; exact Kd.C_take (m := (x13_4 : Int).toNat) ((Kd.R_reads' (by (with_reducible repeat (first | apply Kd.R_alloc | apply Kd.R_drewN | apply Kd.R_drew)); exact HO_8.out)).2.2) KL63.out)); (case aF => exact (fun k_ hk => Nat.le_trans (by first | exact HNle.out | (have := HNle.out; (first | (simp only [size_alloc_, drew_heap_]; done) | ((try simp only [size_alloc_, drew_heap_]); omega)))) hk)); (case aB => exact (by repeat (first | (with_reducible first | exact HB.out | apply below_alloc | apply pw_below_drewN | apply below_drew1) | exact HB.out))); (case aS => exact (below_size (by repeat (first | (with_reducible first | exact HB.out | apply below_alloc | apply pw_below_drewN | apply below_drew1) | exact HB.out)))); (case aL => have := LMc60.out; (try simp only [List.length_nil, List.length_singleton]); omega); intro vX wX ho hb hg hat; rw [show ([] : List S36) ++ y187 = y195 ++ y187 by rw [Ny195.out]] at ho; rw [← Ny198.out] at ho; have n0_ := Aside0.mk (Kd.R_grown (by (with_reducible repeat (first | apply Kd.R_alloc | apply Kd.R_drewN | apply Kd.R_drew)); exact HO_8.out) hg (fun k_ hk => own_ne_ (by have h1_ := hk.2; have h2_ := HN.out; (first | (simp only [size_alloc_, drew_heap_]; done) | ((try simp only [size_alloc_, drew_heap_]); omega))))); have n1_ := Aside0.mk (Kd.R_grown (by (with_reducible repeat (first | apply Kd.R_alloc | apply Kd.R_drewN | apply Kd.R_drew)); exact HO_9.out) hg (fun k_ hk => own_ne_ (by have h1_ := hk.2; have h2_ := HN.out; (first | (simp only [size_alloc_, drew_heap_]; done) | ((try simp only [size_alloc_, drew_heap_]); omega))))); have n2_ := Aside0.mk hb; have n3_ := Aside0.mk (Nat.le_trans (show NN ≤ _ from (by first | exact HNle.out | (have := HNle.out; (first | (simp only [size_alloc_, drew_heap_]; done) | ((try simp only [size_alloc_, drew_heap_]); omega))))) hg.size); (try have H91 := (hg.block (NN + 1) (by have := HN.out; (first | (simp only [size_alloc_, drew_heap_]; done) | ((try simp only [size_alloc_, drew_heap_]); omega))) (own_ne_ (by have := HN.out; (first | (simp only [size_alloc_, drew_heap_]; done) | ((try simp only [size_alloc_, drew_heap_]); omega))))).trans (show _ = some (Obj.cells ([.string ((rd_T36 y155 x10_2).f0), .int .i64 (wrap64 (Int.tdiv (wrap64 ((wrap64 ((wrap64 (t163 * (wrap64 (100 - a2)))) + (wrap64 (t164 * a2)))) + 99)) 100))] : List Value).toArray 36 (0, 0)) from by have := HN.out; ((try simp only [drew_heap_]); first | exact get_alloc_ _ _ (by first | rfl | (first | (simp only [size_alloc_, drew_heap_]; done) | ((try simp only [size_alloc_, drew_heap_]); omega))) | (rw [get_old_ _ _ (by (first | (simp only [size_alloc_, drew_heap_]; done) | ((try simp only [size_alloc_, drew_heap_]); omega)))]; (try simp only [drew_heap_]); exact get_alloc_ _ _ (by first | rfl | (first | (simp only [size_alloc_, drew_heap_]; done) | ((try simp only [size_alloc_, drew_heap_]); omega))))))); (try have H91 := (hg.block (NN) (by have := HN.out; (first | (simp only [size_alloc_, drew_heap_]; done) | ((try simp only [size_alloc_, drew_heap_]); omega))) (own_ne_ (by have := HN.out; (first | (simp only [size_alloc_, drew_heap_]; done) | ((try simp only [size_alloc_, drew_heap_]); omega))))).trans (show _ = some (Obj.cells ([.string ((rd_T36 y155 x10_2).f0), .int .i64 (wrap64 (Int.tdiv (wrap64 ((wrap64 ((wrap64 (t163 * (wrap64 (100 - a2)))) + (wrap64 (t164 * a2)))) + 99)) 100))] : List Value).toArray 36 (0, 0)) from by have := HN.out; ((try simp only [drew_heap_]); first | exact get_alloc_ _ _ (by first | rfl | (first | (simp only [size_alloc_, drew_heap_]; done) | ((try simp only [size_alloc_, drew_heap_]); omega))) | (rw [get_old_ _ _ (by (first | (simp only [size_alloc_, drew_heap_]; done) | ((try simp only [size_alloc_, drew_heap_]); omega)))]; (try simp only [drew_heap_]); exact get_alloc_ _ _ (by first | rfl | (first | (simp only [size_alloc_, drew_heap_]; done) | ((try simp only [size_alloc_, drew_heap_]); omega))))))); have n4_ := Aside0.mk ho; clear HO_8 HO_9 HB HNle; (try clear HX); have HO_8 := n0_; have HO_9 := n1_; have HB := n2_; have HNle := n3_; have HX := n4_; clear n0_ n1_ n2_ n3_ n4_; clear ho hb hg hat) | (refine Kd.R_append_rows_step k36 (w0 := w) w.heap.size ?hw (.tmp 87) (.tmp 91) 24 36 (.agg #[(.string ⟨#[]⟩), (.int .i64 0)]) 24 rfl Tryd.underlying24 info36 rfl (by decide) (by omega) _ y198 [(⟨((rd_T36 y155 x10_2).f0), (wrap64 (Int.tdiv (wrap64 ((wrap64 ((wrap64 (t163 * (wrap64 (100 - a2)))) + (wrap64 (t164 * a2)))) + 99)) 100))⟩ : S36)] _ _ _ (fun k_ => NN ≤ k_) (fun _ => False) rfl rfl ?aO ?aR (fun _ _ h => h) (fun _ h => h.elim) ?aF ?aB ?aS ?aL ?_; (case hw => first | rfl | kernel_rfl); (case aO => exact (by (with_reducible repeat (first | apply Kd.R_alloc | apply Kd.R_drewN | apply Kd.R_drew)); exact HX.out)); (case aR => exact (Kd.R_reads' (R_blk (d := k36) (base := 0) (ok := fun _ => True) (xs := [(⟨((rd_T36 y155 x10_2).f0), (wrap64 (Int.tdiv (wrap64 ((wrap64 ((wrap64 (t163 * (wrap64 (100 - a2)))) + (wrap64 (t164 * a2)))) + 99)) 100))⟩ : S36)]) (inner := [.string ((rd_T36 y155 x10_2).f0), .int .i64 (wrap64 (Int.tdiv (wrap64 ((wrap64 ((wrap64 (t163 * (wrap64 (100 - a2)))) + (wrap64 (t164 * a2)))) + 99)) 100))]) (Nat.zero_le _) (by first | exact at_of_ H91 (by have := HN.out; (first | (simp only [size_alloc_, drew_heap_]; done) | ((try simp only [size_alloc_, drew_heap_]); omega))) | (have := HN.out; ((try simp only [drew_heap_]); first | exact get_alloc_ _ _ (by first | rfl | (first | (simp only [size_alloc_, drew_heap_]; done) | ((try simp only [size_alloc_, drew_heap_]); omega))) | (rw [get_old_ _ _ (by (first | (simp only [size_alloc_, drew_heap_]; done) | ((try simp only [size_alloc_, drew_heap_]); omega)))]; (try simp only [drew_heap_]); exact get_alloc_ _ _ (by first | rfl | (first | (simp only [size_alloc_, drew_heap_]; done) | ((try simp only [size_alloc_, drew_heap_]); omega))))))) rfl rfl (one_reps _ _ (⟨((rd_T36 y155 x10_2).f0), (wrap64 (Int.tdiv (wrap64 ((wrap64 ((wrap64 (t163 * (wrap64 (100 - a2)))) + (wrap64 (t164 * a2)))) + 99)) 100))⟩ : S36)) trivial (show 1 ≤ 1000 by decide))).2.2); (case aF => exact (fun k_ hk => Nat.le_trans (by first | exact HNle.out | (have := HNle.out; (first | (simp only [size_alloc_, drew_heap_]; done) | ((try simp only [size_alloc_, drew_heap_]); omega)))) hk)); (case aB => exact (by repeat (first | (with_reducible first | exact HB.out | apply below_alloc | apply pw_below_drewN | apply below_drew1) | exact HB.out))); (case aS => exact (below_size (by repeat (first | (with_reducible first | exact HB.out | apply below_alloc | apply pw_below_drewN | apply below_drew1) | exact HB.out)))); (case aL => have := LMc61.out; (try simp only [List.length_nil, List.length_singleton]); omega); intro vX wX ho hb hg hat; rw [← Ny201.out] at ho; have n0_ := Aside0.mk (Kd.R_grown (by (with_reducible repeat (first | apply Kd.R_alloc | apply Kd.R_drewN | apply Kd.R_drew)); exact HO_8.out) hg (fun k_ hk => (by exact low_ne HX.out hk.2))); have n1_ := Aside0.mk (Kd.R_grown (by (with_reducible repeat (first | apply Kd.R_alloc | apply Kd.R_drewN | apply Kd.R_drew)); exact HO_9.out) hg (fun k_ hk => (by exact low_ne HX.out hk.2))); have n2_ := Aside0.mk hb; have n3_ := Aside0.mk (Nat.le_trans (show NN ≤ _ from (by first | exact HNle.out | (have := HNle.out; (first | (simp only [size_alloc_, drew_heap_]; done) | ((try simp only [size_alloc_, drew_heap_]); omega))))) hg.size); have n4_ := Aside0.mk ho; clear HO_8 HO_9 HB HNle; (try clear HX); have HO_8 := n0_; have HO_9 := n1_; have HB := n2_; have HNle := n3_; have HX := n4_; clear n0_ n1_ n2_ n3_ n4_; clear ho hb hg hat) | (refine Kd.R_append_rows_step k36 (w0 := w) w.heap.size ?hw (.tmp 92) (.tmp 95) 24 36 (.agg #[(.string ⟨#[]⟩), (.int .i64 0)]) 24 rfl Tryd.underlying24 info36 rfl (by decide) (by omega) _ y201 y191 _ _ _ (fun k_ => NN ≤ k_) (fun _ => False) rfl rfl ?aO ?aR (fun _ _ h => h) (fun _ h => h.elim) ?aF ?aB ?aS ?aL ?_; (case hw => first | rfl | kernel_rfl); (case aO => exact (by (with_reducible repeat (first | apply Kd.R_alloc | apply Kd.R_drewN | apply Kd.R_drew)); exact HX.out)); (case aR => exact (show Kd.C k36 _ A64 y191.length y191 from by rw [Ny191.out, KA64.out]; exact Kd.C_drop (m := (x13_4 : Int).toNat) (c := co36) ((Kd.R_reads' (by (with_reducible repeat (first | apply Kd.R_alloc | apply Kd.R_drewN | apply Kd.R_drew)); exact HO_8.out)).2.2) KL64.out ((Kd.R_reads' HO_8.out).2.1))); (case aF => exact (fun k_ hk => Nat.le_trans (by first | exact HNle.out | (have := HNle.out; (first | (simp only [size_alloc_, drew_heap_]; done) | ((try simp only [size_alloc_, drew_heap_]); omega)))) hk)); (case aB => exact (by repeat (first | (with_reducible first | exact HB.out | apply below_alloc | apply pw_below_drewN | apply below_drew1) | exact HB.out))); (case aS => exact (below_size (by repeat (first | (with_reducible first | exact HB.out | apply below_alloc | apply pw_below_drewN | apply below_drew1) | exact HB.out)))); (case aL => have := LMc62.out; (try simp only [List.length_nil, List.length_singleton]); omega); intro vX wX ho hb hg hat; rw [← Ny204.out] at ho; have n0_ := Aside0.mk (Kd.R_grown (by (with_reducible repeat (first | apply Kd.R_alloc | apply Kd.R_drewN | apply Kd.R_drew)); exact HO_8.out) hg (fun k_ hk => (by exact low_ne HX.out hk.2))); have n1_ := Aside0.mk (Kd.R_grown (by (with_reducible repeat (first | apply Kd.R_alloc | apply Kd.R_drewN | apply Kd.R_drew)); exact HO_9.out) hg (fun k_ hk => (by exact low_ne HX.out hk.2))); have n2_ := Aside0.mk hb; have n3_ := Aside0.mk (Nat.le_trans (show NN ≤ _ from (by first | exact HNle.out | (have := HNle.out; (first | (simp only [size_alloc_, drew_heap_]; done) | ((try simp only [size_alloc_, drew_heap_]); omega))))) hg.size); have n4_ := Aside0.mk ho; clear HO_8 HO_9 HB HNle; (try clear HX); have HO_8 := n0_; have HO_9 := n1_; have HB := n2_; have HNle := n3_; have HX := n4_; clear n0_ n1_ n2_ n3_ n4_; clear ho hb hg hat))
                                          all_goals (go_wp2_with (fail); go_roundg k4; (case measure => have := HJ3.out; have := HK2.out; have := HJ29.out; have := HK4.out; omega); (case rel => exact ⟨(y204), (wrap64 (x10_2 + 1)), (by first | rfl | (simp; done) | (simp [*]; done)), H', ⟨by have := HJ3.out; have := HK2.out; have := HJ29.out; have := HK4.out; omega⟩, ⟨Kd.R_mono HX.out (fun k_ hk => by intro e_; have h_ := (HO_9.out.1 k_ e_.symm).2; omega)⟩, ⟨Kd.R_mono HO_9.out (fun k_ hk => low_ne HX.out hk.2)⟩, ⟨HB.out⟩⟩))
                                        · rw [if_neg c62] at H
                                          exact absurd H (by simp)
                                      · rw [if_neg c61] at H
                                        exact absurd H (by simp)
                                    · rw [if_neg c60] at H
                                      exact absurd H (by simp)
                                  · rw [if_neg c57] at H
                                    exact absurd H (by simp)
                                · rw [if_neg c56] at H
                                  exact absurd H (by simp)
                  · rw [if_neg c27] at H
                    exact absurd H (by simp)
                · rw [if_neg c26] at H
                  have c26b0 : decide (x10_2 < (y155.length : Int)) = false := decide_eq_false c26
                  clear c26
                  replace H := Option.bind_eq_some_iff.mp H
                  obtain ⟨t158, A700, H⟩ := H
                  replace H : (if t158 = true then (some (x8_2, true)) else (some ((([] : List (S36))), false))) = some (r1, r2) := H
                  have A70 := Aside0.mk A700
                  clear A700
                  by_cases c71 : t158 = true
                  · subst c71
                    have H1 : (some (x8_2, true)) = some (r1, r2) := by rw [if_pos rfl] at H; exact H
                    clear H
                    have H := H1
                    clear H1
                    simp only [Option.some.injEq, Prod.mk.injEq] at H
                    obtain ⟨rfl, rfl⟩ := H
                    obtain ⟨Ao72, co72, eo72⟩ := Kd.R_slice HO_9.out
                    subst eo72
                    obtain ⟨Ao73, co73, eo73⟩ := Kd.R_slice HO_8.out
                    subst eo73
                    go_wp2_with (first | ((with_reducible refine gate_callee (f := 12) rfl ?_); refine goesL_ (some 98) rfl rfl Tryd.func12 (by kernel_rfl) rfl #[.slice Ao73 x8_2.length co73] rfl (by (try simp only [List.map_toArray, List.map_cons, List.map_nil]); first | done | rfl | (simp only [List.length_drop, List.length_take]; rfl)) ?_; (with_reducible refine (spec_l7Good.calls k2 _ _ x8_2 true _ ?side1 ?side2 A70.out).mono ?_); (case side1 => repeat (first | exact (Kd.R_reads' HO_8.out).2.2 | (with_reducible refine Kd.C_alloc ?_ _) | (with_reducible refine Kd.C_drewN ?_ _) | (with_reducible refine Kd.C_drew ?_))); (case side2 => exact (Kd.R_reads' HO_8.out).2.1); rintro e w74 ⟨rfl, hb⟩; refine ⟨_, rfl, ?_⟩; have n0_ := Aside0.mk (Kd.R_below (by (with_reducible repeat (first | apply Kd.R_alloc | apply Kd.R_drewN | apply Kd.R_drew)); exact HO_8.out) hb); have n1_ := Aside0.mk (Kd.R_below (by (with_reducible repeat (first | apply Kd.R_alloc | apply Kd.R_drewN | apply Kd.R_drew)); exact HO_9.out) hb); have n2_ := Aside0.mk (below_step (by repeat (first | (with_reducible first | exact HB.out | apply below_alloc | apply pw_below_drewN | apply below_drew1) | exact HB.out)) hb); clear HO_8; clear HO_9; clear HB; have HO_8 := n0_; have HO_9 := n1_; have HB := n2_; clear n0_ n1_ n2_; (try clear hb); (try clear hb2); (try clear hk); (try clear hi)))
                    go_ret2
                    exact ⟨_, by first | rfl | (simp [errW_none, errW_some] <;> rfl) | (simp [*, errW_none, errW_some] <;> rfl), by (with_reducible repeat (first | apply Kd.R_alloc | apply Kd.R_drewN | apply Kd.R_drew)); exact Kd.R_mono HO_8.out (fun _ hk => trivial), by repeat (first | (with_reducible first | exact HB.out | apply below_alloc | apply pw_below_drewN | apply below_drew1) | exact HB.out)⟩
                  · replace c71 := Bool.eq_false_iff.mpr c71
                    subst c71
                    have H1 : (some ((([] : List (S36))), false)) = some (r1, r2) := by rw [if_neg (show ¬ (false = true) by decide)] at H; exact H
                    clear H
                    have H := H1
                    clear H1
                    obtain ⟨y159, hy159⟩ : ∃ y_ : List (S36), y_ = (([] : List (S36))) := ⟨_, rfl⟩
                    replace H : (some (y159, false)) = some (r1, r2) := by first | (rw [hy159]; with_reducible exact H) | (have H2_ := (Option.bind_some _ _).symm.trans H; rw [hy159]; with_reducible exact H2_) | (have H2_ := (Option.bind_some _ _).symm.trans H; with_reducible exact H2_) | with_reducible exact H | (rw [hy159]; exact H) | exact H
                    have Ny159 := Aside0.mk hy159
                    clear hy159
                    simp only [Option.some.injEq, Prod.mk.injEq] at H
                    obtain ⟨rfl, rfl⟩ := H
                    obtain ⟨Ao75, co75, eo75⟩ := Kd.R_slice HO_9.out
                    subst eo75
                    obtain ⟨Ao76, co76, eo76⟩ := Kd.R_slice HO_8.out
                    subst eo76
                    go_wp2_with (first | ((with_reducible refine gate_callee (f := 12) rfl ?_); refine goesL_ (some 98) rfl rfl Tryd.func12 (by kernel_rfl) rfl #[.slice Ao76 x8_2.length co76] rfl (by (try simp only [List.map_toArray, List.map_cons, List.map_nil]); first | done | rfl | (simp only [List.length_drop, List.length_take]; rfl)) ?_; (with_reducible refine (spec_l7Good.calls k2 _ _ x8_2 false _ ?side1 ?side2 A70.out).mono ?_); (case side1 => repeat (first | exact (Kd.R_reads' HO_8.out).2.2 | (with_reducible refine Kd.C_alloc ?_ _) | (with_reducible refine Kd.C_drewN ?_ _) | (with_reducible refine Kd.C_drew ?_))); (case side2 => exact (Kd.R_reads' HO_8.out).2.1); rintro e w77 ⟨rfl, hb⟩; refine ⟨_, rfl, ?_⟩; have n0_ := Aside0.mk (Kd.R_below (by (with_reducible repeat (first | apply Kd.R_alloc | apply Kd.R_drewN | apply Kd.R_drew)); exact HO_8.out) hb); have n1_ := Aside0.mk (Kd.R_below (by (with_reducible repeat (first | apply Kd.R_alloc | apply Kd.R_drewN | apply Kd.R_drew)); exact HO_9.out) hb); have n2_ := Aside0.mk (below_step (by repeat (first | (with_reducible first | exact HB.out | apply below_alloc | apply pw_below_drewN | apply below_drew1) | exact HB.out)) hb); clear HO_8; clear HO_9; clear HB; have HO_8 := n0_; have HO_9 := n1_; have HB := n2_; clear n0_ n1_ n2_; (try clear hb); (try clear hb2); (try clear hk); (try clear hi)) | ((with_reducible refine gate_dst (N := 100) rfl ?_); refine Kd.R_lit k36 _ 36 ?hg (N := 100) ?hd (xs := ([] : List (S36))) (inner := []) (ok := fun _ => True) (okp := fun _ => True) ?hr ?hp (fun _ hk => hk) trivial (Below.refl _ _) (Nat.le_refl _) (by simp) ?_; (case hd => rfl); (case hg => rfl); (case hr => first | (go_simp; done) | (go_simp; rfl)); (case hp => exact (Reps.none _ _)); intro v160 w78 ho79 hb hg_ hnew_; clear hg_ hnew_; (first | rw [← Ny159.out] at ho79 | (simp only [Int.reduceToNat] at ho79; rw [← Ny159.out] at ho79)); have n0_ := Aside0.mk (Kd.R_elder' (by (with_reducible repeat (first | apply Kd.R_alloc | apply Kd.R_drewN | apply Kd.R_drew)); exact HO_8.out) (Kd.R_base ho79) hb); have n1_ := Aside0.mk (Kd.R_elder' (by (with_reducible repeat (first | apply Kd.R_alloc | apply Kd.R_drewN | apply Kd.R_drew)); exact HO_9.out) (Kd.R_base ho79) hb); have n2_ := Aside0.mk (Kd.R_lower (Kd.R_new' (Kd.R_new' ho79 (Kd.R_lt (by (with_reducible repeat (first | apply Kd.R_alloc | apply Kd.R_drewN | apply Kd.R_drew)); exact HO_8.out))) (Kd.R_lt (by (with_reducible repeat (first | apply Kd.R_alloc | apply Kd.R_drewN | apply Kd.R_drew)); exact HO_9.out))) (below_size (by repeat (first | (with_reducible first | exact HB.out | apply below_alloc | apply pw_below_drewN | apply below_drew1) | exact HB.out)))); have n3_ := Aside0.mk (below_step (by repeat (first | (with_reducible first | exact HB.out | apply below_alloc | apply pw_below_drewN | apply below_drew1) | exact HB.out)) hb); clear HO_8; clear HO_9; clear HB; have HO_8 := n0_; have HO_9 := n1_; have HO161 := n2_; have HB := n3_; clear n0_ n1_ n2_ n3_; clear hb ho79))
                    go_ret2
                    exact ⟨_, by first | rfl | (simp [errW_none, errW_some] <;> rfl) | (simp [*, errW_none, errW_some] <;> rfl), by (with_reducible repeat (first | apply Kd.R_alloc | apply Kd.R_drewN | apply Kd.R_drew)); exact Kd.R_mono HO161.out (fun _ hk => trivial), by repeat (first | (with_reducible first | exact HB.out | apply below_alloc | apply pw_below_drewN | apply below_drew1) | exact HB.out)⟩
          · rw [if_neg c19] at H
            exact absurd H (by simp)
        · rw [if_neg c18] at H
          exact absurd H (by simp)
end Go.Proofs.YtceiacmieipleaaDoor.G
