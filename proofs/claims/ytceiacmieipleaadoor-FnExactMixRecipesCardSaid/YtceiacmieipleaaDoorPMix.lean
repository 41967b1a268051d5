/- Plain facts on two recipes that are mixed. -/
import Derived.Test.YtceiacmieipleaaDoorGs0
import Derived.Test.YtceiacmieipleaaDoorGs1
import Derived.Test.YtceiacmieipleaaDoorGs2
import Derived.Test.YtceiacmieipleaaDoorGx2
import Derived.Test.YtceiacmieipleaaDoorGx3
import Derived.Test.YtceiacmieipleaaDoorGx4
import Derived.Test.YtceiacmieipleaaDoorGx7
import Derived.Test.YtceiacmieipleaaDoorGx9
import Derived.Test.YtceiacmieipleaaDoorPRecipe
namespace Go.Proofs.YtceiacmieipleaaDoor.Pure
open Go.RowKit Go.Proofs.YtceiacmieipleaaDoor.G Go.Proofs.YtceiacmieipleaaDoorW.PrintWords Go.Proofs.YtceiacmieipleaaDoorW.PrintLast
set_option linter.unusedSimpArgs false
set_option linter.unusedVariables false

theorem toL_inj {s t : ByteArray} (h : s.toList = t.toList) : s = t := by
  rw [ByteArray.toList_eq s, ByteArray.toList_eq t] at h
  exact ByteArray.ext (Array.toList_inj.mp h)
/-- How much of a stuff a recipe asks for: nothing, where it lacks the stuff. -/
def ofR : List S36 → List UInt8 → Int
  | [], _ => 0
  | x :: l, t => if x.f0.toList = t then x.f1 else ofR l t
theorem ofR_bound : ∀ (l : List S36) (t : List UInt8), (∀ y ∈ l, 1 ≤ y.f1 ∧ y.f1 ≤ 1000) → 0 ≤ ofR l t ∧ ofR l t ≤ 1000
  | [], _, _ => by simp [ofR]
  | x :: l, t, h => by
    unfold ofR
    split
    · have := h x (List.mem_cons_self ..)
      omega
    · exact ofR_bound l t (fun y hy => h y (List.mem_cons_of_mem _ hy))
theorem ofR_pos : ∀ (l : List S36) (t : List UInt8), (∀ y ∈ l, 1 ≤ y.f1) → (0 < ofR l t ↔ ∃ y ∈ l, y.f0.toList = t)
  | [], t, _ => by simp [ofR]
  | x :: l, t, h => by
    have ih := ofR_pos l t (fun y hy => h y (List.mem_cons_of_mem _ hy))
    unfold ofR
    by_cases c : x.f0.toList = t
    · rw [if_pos c]
      exact ⟨fun _ => ⟨x, List.mem_cons_self .., c⟩, fun _ => by have := h x (List.mem_cons_self ..); omega⟩
    · rw [if_neg c, ih]
      constructor
      · rintro ⟨y, hy, e⟩
        exact ⟨y, List.mem_cons_of_mem _ hy, e⟩
      · rintro ⟨y, hy, e⟩
        rcases List.mem_cons.mp hy with rfl | hy
        · exact absurd e c
        · exact ⟨y, hy, e⟩
theorem drop_rd (l : List S36) (i : Nat) (h : i < l.length) : l.drop i = rd_T36 l (i : Int) :: l.drop (i + 1) := by
  rw [rdDyePart_at _ _ (by simpa using h), List.drop_eq_getElem_cons h]
  simp
theorem l7Of_l0 (l : List S36) (hl : l.length ≤ 1048576) (t : ByteArray) (d : Nat) : ∀ i : Nat, i + d = l.length → Ev (fun k => spec_l7Of.l0 k l t (i : Int)) (ofR (l.drop i) t.toList) := by
  induction d with
  | zero =>
    intro i hi
    refine Ev.step (fun k => rfl) ?_
    simp only [spec_l7Of.l0]
    rw [List.drop_eq_nil_of_le (by omega)]
    exact ev_neg (by omega) (Ev.now _)
  | succ d ih =>
    intro i hi
    refine Ev.step (fun k => rfl) ?_
    simp only [spec_l7Of.l0]
    rw [drop_rd l i (by omega), wrap_in (x := (i : Int) + 1) (by omega) (by omega)]
    unfold ofR
    by_cases c : (rd_T36 l (i : Int)).f0.toList = t.toList
    · rw [if_pos c]
      exact ev_pos (by omega) (ev_pos (by omega) (ev_pos c (Ev.now _)))
    · rw [if_neg c]
      exact ev_pos (by omega) (ev_pos (by omega) (ev_neg c (ih (i + 1) (by omega))))
theorem l7Of_ev (l : List S36) (hl : l.length ≤ 1048576) (t : ByteArray) : Ev (fun k => spec_l7Of.f k l t) (ofR l t.toList) := l7Of_l0 l hl t l.length 0 (by omega)
theorem idx_ofR (t : List UInt8) : ∀ l : List S36, (idxIDyePart (fun x => x.f0.toList == t) l = -1 ∧ ofR l t = 0) ∨ ∃ i : Nat, i < l.length ∧ idxIDyePart (fun x => x.f0.toList == t) l = i ∧ ofR l t = (rd_T36 l (i : Int)).f1
  | [] => Or.inl ⟨rfl, rfl⟩
  | x :: l => by
    unfold idxIDyePart ofR
    by_cases c : x.f0.toList = t
    · right
      refine ⟨0, by simp, ?_, ?_⟩
      · rw [if_pos (by simpa using c)]
        rfl
      · rw [if_pos c]
        rfl
    · rw [if_neg (by simpa using c), if_neg c]
      rcases idx_ofR t l with ⟨h1, h2⟩ | ⟨i, h0, h1, h2⟩
      · left
        rw [h1, if_pos (by decide)]
        exact ⟨rfl, h2⟩
      · right
        refine ⟨i + 1, by simpa using h0, ?_, ?_⟩
        · rw [h1, if_neg (by omega)]
          omega
        · rw [h2]
          simp [rd_T36]
theorem perMil_eq (l : List S36) (t : ByteArray) : impl_perMilOf.f l t = some (ofR l t.toList) := by
  unfold impl_perMilOf.f impl_findStuff.f
  simp only [Option.bind_some]
  rcases idx_ofR t.toList l with ⟨h1, h2⟩ | ⟨i, h0, h1, h2⟩
  · rw [h1, h2, if_neg (by decide)]
  · rw [h1, h2, if_pos (by omega), if_pos (by omega), if_pos (by omega)]
def mixN (a b : List S36) (s : Int) (t : List UInt8) : Int := (ofR a t * (100 - s) + ofR b t * s + 99) / 100
/-- A recipe's numbers are in their bounds. -/
def Fair (l : List S36) : Prop := l.length ≤ 6 ∧ ∀ y ∈ l, 1 ≤ y.f1 ∧ y.f1 ≤ 1000
theorem fair_of {l : List S36} (h : recB l = true) : Fair l := by
  obtain ⟨h1, h2, h3, _⟩ := rec_parts h
  refine ⟨h2, fun y hy => ?_⟩
  obtain ⟨j, hj, e⟩ := List.getElem_of_mem hy
  have := h3 (j : Int) (by omega) (by omega)
  rw [rdDyePart_at _ _ (by simpa using hj)] at this
  simpa [e] using this
theorem mix_bound {a b : List S36} (ha : Fair a) (hb : Fair b) {s : Int} (s0 : 0 ≤ s) (s1 : s ≤ 100) (t : List UInt8) : 0 ≤ ofR a t * (100 - s) ∧ ofR a t * (100 - s) ≤ 100000 ∧ 0 ≤ ofR b t * s ∧ ofR b t * s ≤ 100000 := by
  have h1 := ofR_bound a t ha.2
  have h2 := ofR_bound b t hb.2
  have m1 := mul_bound h1.1 h1.2 (show 0 ≤ 100 - s by omega) (show 100 - s ≤ 100 by omega)
  have m2 := mul_bound h2.1 h2.2 s0 s1
  omega
theorem mix_wrap {a b : List S36} (ha : Fair a) (hb : Fair b) {s : Int} (s0 : 0 ≤ s) (s1 : s ≤ 100) (t : List UInt8) : wrap64 (wrap64 (ofR a t * wrap64 (100 - s)) + wrap64 (ofR b t * s)) = ofR a t * (100 - s) + ofR b t * s := by
  have h := mix_bound ha hb s0 s1 t
  rw [wrap_in (x := 100 - s) (by omega) (by omega), wrap_in (x := ofR a t * (100 - s)) (by omega) (by omega), wrap_in (x := ofR b t * s) (by omega) (by omega), wrap_in (by omega) (by omega)]
theorem mix_ceil {a b : List S36} (ha : Fair a) (hb : Fair b) {s : Int} (s0 : 0 ≤ s) (s1 : s ≤ 100) (t : List UInt8) : impl_ceilDiv.f (ofR a t * (100 - s) + ofR b t * s) 100 = some (mixN a b s t) := by
  have h := mix_bound ha hb s0 s1 t
  unfold impl_ceilDiv.f mixN
  rw [if_neg (by decide), wrap_in (x := ofR a t * (100 - s) + ofR b t * s + 100) (by omega) (by omega), wrap_in (x := ofR a t * (100 - s) + ofR b t * s + 100 - 1) (by omega) (by omega), tdiv_nn (by omega), wrap_in (by omega) (by omega)]
  congr 1
  omega
theorem mix_spec {a b : List S36} (ha : Fair a) (hb : Fair b) {s : Int} (s0 : 0 ≤ s) (s1 : s ≤ 100) (t : List UInt8) : wrap64 (Int.tdiv (wrap64 (wrap64 (wrap64 (ofR a t * wrap64 (100 - s)) + wrap64 (ofR b t * s)) + 99)) 100) = mixN a b s t := by
  have h := mix_bound ha hb s0 s1 t
  rw [mix_wrap ha hb s0 s1]
  unfold mixN
  rw [wrap_in (x := ofR a t * (100 - s) + ofR b t * s + 99) (by omega) (by omega), tdiv_nn (by omega), wrap_in (by omega) (by omega)]
theorem mix_pos {a b : List S36} (ha : Fair a) (hb : Fair b) {s : Int} (s0 : 0 ≤ s) (s1 : s ≤ 100) (t : List UInt8) : 0 ≤ mixN a b s t ∧ (ofR a t * (100 - s) + ofR b t * s > 0 ↔ 0 < mixN a b s t) := by
  have h := mix_bound ha hb s0 s1 t
  unfold mixN
  omega
def Asc (l : List S36) : Prop := l.Pairwise fun x y => x.f0.toList < y.f0.toList
/-- What out holds when the parts P have been looked at. -/
def Inv (a b : List S36) (s : Int) (P out : List S36) : Prop := Asc out ∧ out.length ≤ P.length ∧ ∀ x, x ∈ out ↔ ∃ y ∈ P, x = (⟨y.f0, mixN a b s y.f0.toList⟩ : S36) ∧ 0 < mixN a b s y.f0.toList
theorem inv_nil (a b : List S36) (s : Int) : Inv a b s [] [] := ⟨List.Pairwise.nil, Nat.le_refl _, by simp⟩
theorem inv_skip {a b : List S36} {s : Int} {P out : List S36} (h : Inv a b s P out) (y : S36) (hy : ¬ 0 < mixN a b s y.f0.toList ∨ ∃ z ∈ P, z.f0 = y.f0) : Inv a b s (P ++ [y]) out := by
  obtain ⟨h1, h2, h3⟩ := h
  refine ⟨h1, by rw [List.length_append]; omega, fun x => ?_⟩
  rw [h3]
  constructor
  · rintro ⟨z, hz, e⟩
    exact ⟨z, List.mem_append_left _ hz, e⟩
  · rintro ⟨z, hz, e1, e2⟩
    rcases List.mem_append.mp hz with hz | hz
    · exact ⟨z, hz, e1, e2⟩
    · obtain rfl := List.mem_singleton.mp hz
      rcases hy with hy | ⟨w, hw, e⟩
      · exact absurd e2 hy
      · exact ⟨w, hw, by rw [e]; exact e1, by rw [e]; exact e2⟩
theorem inv_put {a b : List S36} {s : Int} {P u v : List S36} (h : Inv a b s P (u ++ v)) (y : S36) (hn : 0 < mixN a b s y.f0.toList) (hu : ∀ x ∈ u, x.f0.toList < y.f0.toList) (hv : ∀ x ∈ v, y.f0.toList < x.f0.toList) : Inv a b s (P ++ [y]) (u ++ [(⟨y.f0, mixN a b s y.f0.toList⟩ : S36)] ++ v) := by
  obtain ⟨h1, h2, h3⟩ := h
  refine ⟨?_, by simp only [List.length_append, List.length_singleton] at h2 ⊢; omega, fun x => ?_⟩
  · unfold Asc at h1 ⊢
    rw [List.pairwise_append] at h1
    rw [List.append_assoc, List.pairwise_append]
    refine ⟨h1.1, ?_, ?_⟩
    · rw [List.singleton_append, List.pairwise_cons]
      exact ⟨fun x hx => hv x hx, h1.2.1⟩
    · intro x hx z hz
      rw [List.singleton_append] at hz
      rcases List.mem_cons.mp hz with rfl | hz
      · exact hu x hx
      · exact h1.2.2 x hx z hz
  · have e : x ∈ u ++ [(⟨y.f0, mixN a b s y.f0.toList⟩ : S36)] ++ v ↔ x ∈ u ++ v ∨ x = (⟨y.f0, mixN a b s y.f0.toList⟩ : S36) := by
      simp only [List.mem_append, List.mem_singleton]
      constructor
      · rintro ((k | k) | k)
        · exact .inl (.inl k)
        · exact .inr k
        · exact .inl (.inr k)
      · rintro ((k | k) | k)
        · exact .inl (.inl k)
        · exact .inr k
        · exact .inl (.inr k)
    rw [e, h3]
    constructor
    · rintro (⟨z, hz, e1⟩ | e1)
      · exact ⟨z, List.mem_append_left _ hz, e1⟩
      · exact ⟨y, List.mem_append_right _ (List.mem_singleton.mpr rfl), e1, hn⟩
    · rintro ⟨z, hz, e1, e2⟩
      rcases List.mem_append.mp hz with hz | hz
      · exact .inl ⟨z, hz, e1, e2⟩
      · obtain rfl := List.mem_singleton.mp hz
        exact .inr e1
theorem asc_ext : ∀ l m : List S36, Asc l → Asc m → (∀ x, x ∈ l ↔ x ∈ m) → l = m
  | [], [], _, _, _ => rfl
  | [], y :: m, _, _, h => absurd ((h y).mpr (List.mem_cons_self ..)) (by simp)
  | x :: l, [], _, _, h => absurd ((h x).mp (List.mem_cons_self ..)) (by simp)
  | x :: l, y :: m, hl, hm, h => by
    unfold Asc at hl hm
    rw [List.pairwise_cons] at hl hm
    have e : x = y := by
      rcases List.mem_cons.mp ((h x).mp (List.mem_cons_self ..)) with e | hx
      · exact e
      · rcases List.mem_cons.mp ((h y).mpr (List.mem_cons_self ..)) with e | hy
        · exact e.symm
        · exact absurd (List.lt_trans (hm.1 x hx) (hl.1 y hy)) (List.lt_irrefl _)
    subst e
    congr 1
    refine asc_ext l m hl.2 hm.2 (fun z => ⟨fun hz => ?_, fun hz => ?_⟩)
    · rcases List.mem_cons.mp ((h z).mp (List.mem_cons_of_mem _ hz)) with rfl | k
      · exact absurd (hl.1 z hz) (List.lt_irrefl _)
      · exact k
    · rcases List.mem_cons.mp ((h z).mpr (List.mem_cons_of_mem _ hz)) with rfl | k
      · exact absurd (hm.1 z hz) (List.lt_irrefl _)
      · exact k
theorem inv_same {a b : List S36} {s : Int} {P Q u v : List S36} (h : Inv a b s P u) (k : Inv a b s Q v) (e : ∀ x, x ∈ P ↔ x ∈ Q) : u = v := by
  refine asc_ext u v h.1 k.1 (fun x => ?_)
  rw [h.2.2, k.2.2]
  exact ⟨fun ⟨y, hy, r⟩ => ⟨y, (e y).mp hy, r⟩, fun ⟨y, hy, r⟩ => ⟨y, (e y).mpr hy, r⟩⟩
theorem take_mem {S : List S36} {i : Nat} (hi : i ≤ S.length) {x : S36} (h : x ∈ S.take i) : ∃ j : Nat, j < i ∧ x = rd_T36 S (j : Int) := by
  obtain ⟨j, hj, e⟩ := List.getElem_of_mem h
  rw [List.length_take] at hj
  refine ⟨j, by omega, ?_⟩
  rw [rdDyePart_at _ _ (by simp; omega), ← e]
  simp
theorem mem_take {S : List S36} {i j : Nat} (hi : i ≤ S.length) (hj : j < i) : rd_T36 S (j : Int) ∈ S.take i := by
  rw [rdDyePart_at _ _ (by simp; omega)]
  refine List.mem_iff_getElem.mpr ⟨j, by rw [List.length_take]; omega, ?_⟩
  simp
theorem drop_mem {S : List S36} {i : Nat} {x : S36} (h : x ∈ S.drop i) : ∃ j : Nat, i ≤ j ∧ j < S.length ∧ x = rd_T36 S (j : Int) := by
  obtain ⟨j, hj, e⟩ := List.getElem_of_mem h
  rw [List.length_drop] at hj
  refine ⟨i + j, by omega, by omega, ?_⟩
  rw [rdDyePart_at _ _ (by simp; omega), ← e]
  simp only [List.getElem_drop]
  congr 1
theorem take_snoc {S : List S36} {i : Nat} (hi : i < S.length) : S.take (i + 1) = S.take i ++ [rd_T36 S (i : Int)] := by
  rw [rdDyePart_at _ _ (by simpa using hi), List.take_succ_eq_append_getElem hi]
  simp
/-- What both answer behind their loops. -/
def finR (out : List S36) : List S36 × Bool := if recB out = true then (out, true) else ([], false)
theorem impl_loop {a b : List S36} (ha : Fair a) (hb : Fair b) {s : Int} (s0 : 0 ≤ s) (s1 : s ≤ 100) (S : List S36) (hS : S.length ≤ 100) (srt : ∀ i j : Nat, i < j → j < S.length → ¬ (rd_T36 S (j : Int)).f0.toList < (rd_T36 S (i : Int)).f0.toList) (d : Nat) : ∀ (i : Nat) (out : List S36), i + d = S.length → Inv a b s (S.take i) out →
    ∃ out', Inv a b s S out' ∧ Ev (fun k => impl_MixRecipes.l0 k a b s S out S (S.length : Int) (i : Int)) (finR out') := by
  induction d with
  | zero =>
    intro i out hi h
    rw [List.take_of_length_le (by omega)] at h
    have hl := h.2.1
    refine ⟨out, h, Ev.step (fun k => rfl) ?_⟩
    simp only [impl_MixRecipes.l0]
    refine ev_neg (by omega) (Ev.bind (IsRecipe_ev out (by omega)) ?_)
    unfold finR
    cases recB out with
    | false => exact ev_neg (by simp) (Ev.now _)
    | true => exact ev_pos rfl (Ev.now _)
  | succ d ih =>
    intro i out hi h
    have hl := h.2.1
    rw [List.length_take] at hl
    have hN := mix_pos ha hb s0 s1 (rd_T36 S (i : Int)).f0.toList
    have w1 : wrap64 ((i : Int) + 1) = ((i + 1 : Nat) : Int) := by rw [wrap_in (by omega) (by omega)]; omega
    by_cases c : ofR a (rd_T36 S (i : Int)).f0.toList * (100 - s) + ofR b (rd_T36 S (i : Int)).f0.toList * s > 0
    · by_cases c0 : i = 0
      · subst c0
        have h0 : Inv a b s (S.take (0 + 1)) (out ++ [(⟨(rd_T36 S ((0 : Nat) : Int)).f0, mixN a b s (rd_T36 S ((0 : Nat) : Int)).f0.toList⟩ : S36)]) := by
          rw [take_snoc (by omega)]
          have k := inv_put (v := []) (by rw [List.append_nil]; exact h) (rd_T36 S ((0 : Nat) : Int)) (hN.2.mp c) (fun x hx => absurd ((h.2.2 x).mp hx) (by simp)) (by simp)
          rw [List.append_nil] at k
          exact k
        obtain ⟨out', i1, i2⟩ := ih (0 + 1) _ (by omega) h0
        refine ⟨out', i1, Ev.step (fun k => rfl) ?_⟩
        simp only [impl_MixRecipes.l0]
        rw [perMil_eq, perMil_eq]
        simp only [Option.bind_some]
        rw [mix_wrap ha hb s0 s1, mix_ceil ha hb s0 s1, w1]
        simp only [Option.bind_some]
        exact ev_pos (by omega) (ev_pos (by omega) (ev_pos (by omega) (ev_pos c (ev_pos rfl (ev_pos (by omega) i2)))))
      · have w2 : wrap64 ((i : Int) - 1) = ((i - 1 : Nat) : Int) := by rw [wrap_in (by omega) (by omega)]; omega
        by_cases c1 : (rd_T36 S ((i - 1 : Nat) : Int)).f0.toList = (rd_T36 S (i : Int)).f0.toList
        · have h0 : Inv a b s (S.take (i + 1)) out := by
            rw [take_snoc (by omega)]
            exact inv_skip h _ (Or.inr ⟨_, mem_take (by omega) (show i - 1 < i by omega), toL_inj c1⟩)
          obtain ⟨out', i1, i2⟩ := ih (i + 1) _ (by omega) h0
          refine ⟨out', i1, Ev.step (fun k => rfl) ?_⟩
          simp only [impl_MixRecipes.l0]
          rw [perMil_eq, perMil_eq]
          simp only [Option.bind_some]
          rw [mix_wrap ha hb s0 s1, mix_ceil ha hb s0 s1, w1, w2]
          simp only [Option.bind_some]
          exact ev_pos (by omega) (ev_pos (by omega) (ev_pos (by omega) (ev_pos c (ev_neg (by omega) (ev_pos (by omega) (ev_pos (by omega) (ev_pos c1 i2)))))))
        · have lo : ∀ z ∈ S.take i, z.f0.toList < (rd_T36 S (i : Int)).f0.toList := by
            intro z hz
            obtain ⟨j, hj, rfl⟩ := take_mem (by omega) hz
            have n1 := srt (i - 1) i (by omega) (by omega)
            have lt1 : (rd_T36 S ((i - 1 : Nat) : Int)).f0.toList < (rd_T36 S (i : Int)).f0.toList := by
              rw [List.not_lt] at n1
              by_cases k : (rd_T36 S ((i - 1 : Nat) : Int)).f0.toList < (rd_T36 S (i : Int)).f0.toList
              · exact k
              · rw [List.not_lt] at k
                exact absurd (List.le_antisymm n1 k) c1
            by_cases k : j = i - 1
            · rw [k]
              exact lt1
            · have n2 := srt j (i - 1) (by omega) (by omega)
              rw [List.not_lt] at n2
              by_cases m : (rd_T36 S (j : Int)).f0.toList < (rd_T36 S (i : Int)).f0.toList
              · exact m
              · rw [List.not_lt] at m
                exact absurd lt1 (by rw [List.not_lt]; exact List.le_trans m n2)
          have h0 : Inv a b s (S.take (i + 1)) (out ++ [(⟨(rd_T36 S (i : Int)).f0, mixN a b s (rd_T36 S (i : Int)).f0.toList⟩ : S36)]) := by
            rw [take_snoc (by omega)]
            have k := inv_put (v := []) (by rw [List.append_nil]; exact h) (rd_T36 S (i : Int)) (hN.2.mp c) (fun x hx => by
              obtain ⟨z, hz, rfl, _⟩ := (h.2.2 x).mp hx
              exact lo z hz) (by simp)
            rw [List.append_nil] at k
            exact k
          obtain ⟨out', i1, i2⟩ := ih (i + 1) _ (by omega) h0
          refine ⟨out', i1, Ev.step (fun k => rfl) ?_⟩
          simp only [impl_MixRecipes.l0]
          rw [perMil_eq, perMil_eq]
          simp only [Option.bind_some]
          rw [mix_wrap ha hb s0 s1, mix_ceil ha hb s0 s1, w1, w2]
          simp only [Option.bind_some]
          exact ev_pos (by omega) (ev_pos (by omega) (ev_pos (by omega) (ev_pos c (ev_neg (by omega) (ev_pos (by omega) (ev_pos (by omega) (ev_neg c1 (ev_pos (by omega) i2))))))))
    · have h0 : Inv a b s (S.take (i + 1)) out := by
        rw [take_snoc (by omega)]
        exact inv_skip h _ (Or.inl (fun k => c (hN.2.mpr k)))
      obtain ⟨out', i1, i2⟩ := ih (i + 1) _ (by omega) h0
      refine ⟨out', i1, Ev.step (fun k => rfl) ?_⟩
      simp only [impl_MixRecipes.l0]
      rw [perMil_eq, perMil_eq]
      simp only [Option.bind_some]
      rw [mix_wrap ha hb s0 s1, w1]
      exact ev_pos (by omega) (ev_pos (by omega) (ev_pos (by omega) (ev_neg c i2)))
theorem spec_ins (a b : List S36) (s : Int) (A out : List S36) (hl : out.length ≤ 100) (i : Int) (t : ByteArray) (n : Int) : ∀ p : Nat, p ≤ out.length → (∀ j : Nat, p ≤ j → j < out.length → t.toList < (rd_T36 out (j : Int)).f0.toList) →
    ∃ q : Nat, q ≤ out.length ∧ (∀ j : Nat, q ≤ j → j < out.length → t.toList < (rd_T36 out (j : Int)).f0.toList) ∧ (q = 0 ∨ ¬ t.toList < (rd_T36 out ((q - 1 : Nat) : Int)).f0.toList) ∧
      ∀ r, Ev (fun k => spec_MixRecipes.l0 k a b s (out.take q ++ [(⟨t, n⟩ : S36)] ++ out.drop q) A (wrap64 (i + 1))) r → Ev (fun k => spec_MixRecipes.l1 k a b s out A i t n (p : Int)) r := by
  have put : ∀ (q : Nat), q ≤ out.length → ([] ++ out.take ((q : Int).toNat) ++ [(⟨t, n⟩ : S36)] ++ out.drop ((q : Int).toNat)) = out.take q ++ [(⟨t, n⟩ : S36)] ++ out.drop q := fun q _ => by simp
  have lens : ∀ q : Nat, (out.take ((q : Int).toNat)).length ≤ 100 ∧ (out.drop ((q : Int).toNat)).length ≤ 100 := fun q => by
    rw [List.length_take, List.length_drop]
    omega
  intro p
  induction p with
  | zero =>
    intro h0 h1
    refine ⟨0, Nat.zero_le _, h1, Or.inl rfl, fun r hr => Ev.step (fun k => rfl) ?_⟩
    rw [← put 0 h0] at hr
    have := lens 0
    simp only [spec_MixRecipes.l1, Option.bind_some]
    refine ev_neg (by omega) (ev_pos (by omega) (ev_pos (by omega) (ev_pos ?_ (ev_pos ?_ (ev_pos ?_ hr)))))
    · simp only [List.length_nil]; omega
    · simp only [List.length_append, List.length_nil]; omega
    · simp only [List.length_append, List.length_nil, List.length_singleton]; omega
  | succ p ih =>
    intro h0 h1
    have w : wrap64 (((p + 1 : Nat) : Int) - 1) = (p : Int) := by rw [wrap_in (by omega) (by omega)]; omega
    by_cases c : t.toList < (rd_T36 out (p : Int)).f0.toList
    · obtain ⟨q, q0, q1, q2, q3⟩ := ih (by omega) (fun j j0 j1 => by
        by_cases k : j = p
        · rw [k]
          exact c
        · exact h1 j (by omega) j1)
      refine ⟨q, q0, q1, q2, fun r hr => Ev.step (fun k => rfl) ?_⟩
      simp only [spec_MixRecipes.l1, Option.bind_some]
      rw [w]
      exact ev_pos (by omega) (ev_pos (by omega) (ev_pos (by omega) (ev_pos (by rw [bytesLess_eq]; exact decide_eq_true c) (q3 r hr))))
    · refine ⟨p + 1, h0, h1, Or.inr c, fun r hr => Ev.step (fun k => rfl) ?_⟩
      rw [← put (p + 1) h0] at hr
      have := lens (p + 1)
      simp only [spec_MixRecipes.l1, Option.bind_some]
      rw [w]
      refine ev_pos (by omega) (ev_pos (by omega) (ev_pos (by omega) (ev_neg (by rw [bytesLess_eq, decide_eq_false c]; simp) (ev_pos (by omega) (ev_pos (by omega) (ev_pos ?_ (ev_pos ?_ (ev_pos ?_ hr))))))))
      · simp only [List.length_nil]; omega
      · simp only [List.length_append, List.length_nil]; omega
      · simp only [List.length_append, List.length_nil, List.length_singleton]; omega
theorem spec_loop {a b : List S36} (ha : Fair a) (hb : Fair b) {s : Int} (s0 : 0 ≤ s) (s1 : s ≤ 100) (A : List S36) (hA : A.length ≤ 100) (hx : ∀ x ∈ A, x.f0.size ≤ 9223372036854775807) (d : Nat) : ∀ (i : Nat) (out : List S36), i + d = A.length → Inv a b s (A.take i) out →
    ∃ out', Inv a b s A out' ∧ Ev (fun k => spec_MixRecipes.l0 k a b s out A (i : Int)) (finR out') := by
  induction d with
  | zero =>
    intro i out hi h
    rw [List.take_of_length_le (by omega)] at h
    have hl := h.2.1
    refine ⟨out, h, Ev.step (fun k => rfl) ?_⟩
    simp only [spec_MixRecipes.l0]
    refine ev_neg (by omega) (Ev.bind (l7Good_ev out (by omega) (fun x k => ?_)) ?_)
    · obtain ⟨y, hy, rfl, _⟩ := (h.2.2 x).mp k
      exact hx y hy
    unfold finR
    cases recB out with
    | false => exact ev_neg (by simp) (Ev.now _)
    | true => exact ev_pos rfl (Ev.now _)
  | succ d ih =>
    intro i out hi h
    have hl := h.2.1
    rw [List.length_take] at hl
    have hN := mix_pos ha hb s0 s1 (rd_T36 A (i : Int)).f0.toList
    have w1 : wrap64 ((i : Int) + 1) = ((i + 1 : Nat) : Int) := by rw [wrap_in (by omega) (by omega)]; omega
    have eA := l7Of_ev a (by have := ha.1; omega) (rd_T36 A (i : Int)).f0
    have eB := l7Of_ev b (by have := hb.1; omega) (rd_T36 A (i : Int)).f0
    by_cases c : mixN a b s (rd_T36 A (i : Int)).f0.toList = 0
    · have h0 : Inv a b s (A.take (i + 1)) out := by
        rw [take_snoc (by omega)]
        exact inv_skip h _ (Or.inl (by omega))
      obtain ⟨out', i1, i2⟩ := ih (i + 1) _ (by omega) h0
      refine ⟨out', i1, Ev.step (fun k => rfl) ?_⟩
      simp only [spec_MixRecipes.l0]
      refine ev_pos (by omega) (ev_pos (by omega) (Ev.bind eA (Ev.bind eB ?_)))
      rw [mix_spec ha hb s0 s1]
      refine ev_pos c (Ev.step (fun k => rfl) ?_)
      simp only [spec_MixRecipes.j2]
      rw [w1]
      exact ev_pos trivial i2
    · have fo : ∀ y ∈ out, 1 ≤ y.f1 := fun y hy => by
        obtain ⟨z, hz, rfl, k⟩ := (h.2.2 y).mp hy
        exact k
      have hp := ofR_pos out (rd_T36 A (i : Int)).f0.toList fo
      by_cases c1 : 0 < ofR out (rd_T36 A (i : Int)).f0.toList
      · have h0 : Inv a b s (A.take (i + 1)) out := by
          rw [take_snoc (by omega)]
          obtain ⟨y, hy, e⟩ := hp.mp c1
          obtain ⟨z, hz, rfl, _⟩ := (h.2.2 y).mp hy
          exact inv_skip h _ (Or.inr ⟨z, hz, toL_inj e⟩)
        obtain ⟨out', i1, i2⟩ := ih (i + 1) _ (by omega) h0
        refine ⟨out', i1, Ev.step (fun k => rfl) ?_⟩
        simp only [spec_MixRecipes.l0]
        refine ev_pos (by omega) (ev_pos (by omega) (Ev.bind eA (Ev.bind eB ?_)))
        rw [mix_spec ha hb s0 s1]
        refine ev_neg c (Ev.bind (l7Of_ev out (by omega) _) (Ev.step (fun k => rfl) ?_))
        simp only [spec_MixRecipes.j2]
        rw [w1]
        exact ev_pos (decide_eq_true c1) i2
      · obtain ⟨q, q0, q1, q2, q3⟩ := spec_ins a b s A out (by omega) (i : Int) (rd_T36 A (i : Int)).f0 (mixN a b s (rd_T36 A (i : Int)).f0.toList) out.length (Nat.le_refl _) (fun j j0 j1 => absurd j1 (by omega))
        have no : ∀ y ∈ out, y.f0.toList ≠ (rd_T36 A (i : Int)).f0.toList := fun y hy e => c1 (hp.mpr ⟨y, hy, e⟩)
        have h0 : Inv a b s (A.take (i + 1)) (out.take q ++ [(⟨(rd_T36 A (i : Int)).f0, mixN a b s (rd_T36 A (i : Int)).f0.toList⟩ : S36)] ++ out.drop q) := by
          rw [take_snoc (by omega)]
          refine inv_put (by rw [List.take_append_drop]; exact h) _ (by omega) (fun x hx => ?_) (fun x hx => ?_)
          · obtain ⟨j, hj, rfl⟩ := take_mem q0 hx
            rcases q2 with q2 | q2
            · omega
            · have m1 := no _ (List.mem_of_mem_take (mem_take q0 (show q - 1 < q by omega)))
              rw [List.not_lt] at q2
              have lt1 : (rd_T36 out ((q - 1 : Nat) : Int)).f0.toList < (rd_T36 A (i : Int)).f0.toList := by
                by_cases k : (rd_T36 out ((q - 1 : Nat) : Int)).f0.toList < (rd_T36 A (i : Int)).f0.toList
                · exact k
                · rw [List.not_lt] at k
                  exact absurd (List.le_antisymm q2 k) m1
              by_cases k : j = q - 1
              · rw [k]
                exact lt1
              · have hj' : (rd_T36 out (j : Int)).f0.toList < (rd_T36 out ((q - 1 : Nat) : Int)).f0.toList := by
                  have := (List.pairwise_iff_getElem.mp h.1) j (q - 1) (by omega) (by omega) (by omega)
                  rw [rdDyePart_at _ _ (by simp; omega), rdDyePart_at _ _ (by simp; omega)]
                  simpa using this
                exact List.lt_trans hj' lt1
          · obtain ⟨j, hj, hj2, rfl⟩ := drop_mem hx
            exact q1 j hj hj2
        obtain ⟨out', i1, i2⟩ := ih (i + 1) _ (by omega) h0
        refine ⟨out', i1, Ev.step (fun k => rfl) ?_⟩
        simp only [spec_MixRecipes.l0]
        refine ev_pos (by omega) (ev_pos (by omega) (Ev.bind eA (Ev.bind eB ?_)))
        rw [mix_spec ha hb s0 s1]
        refine ev_neg c (Ev.bind (l7Of_ev out (by omega) _) (Ev.step (fun k => rfl) ?_))
        simp only [spec_MixRecipes.j2]
        refine ev_neg (by rw [decide_eq_false c1]; simp) (q3 _ ?_)
        rw [w1]
        exact i2
theorem concat_ev (a b : List S36) (ha : a.length ≤ 100) (hb : b.length ≤ 100) : Ev (fun k => slices_Concat_impl_DyePart_impl_DyePart.f k [a, b]) (a ++ b) := by
  have r0 : rd_L3 [a, b] 0 = a := rfl
  have r1 : rd_L3 [a, b] 1 = b := rfl
  have n2 : (([a, b] : List (List S36)).length : Int) = 2 := rfl
  have tail : Ev (fun k => slices_Concat_impl_DyePart_impl_DyePart.l1 k [] [a, b] 2 0) (a ++ b) := by
    refine Ev.step (fun k => rfl) ?_
    simp only [slices_Concat_impl_DyePart_impl_DyePart.l1]
    rw [r0, n2, show wrap64 ((0 : Int) + 1) = 1 by unfold wrap64; omega]
    refine ev_pos (by omega) (ev_pos (by omega) (ev_pos (by omega) (ev_pos (by simp only [List.length_nil]; omega) ?_)))
    refine Ev.step (fun k => rfl) ?_
    simp only [slices_Concat_impl_DyePart_impl_DyePart.l1]
    rw [r1, n2, show wrap64 ((1 : Int) + 1) = 2 by unfold wrap64; omega]
    refine ev_pos (by omega) (ev_pos (by omega) (ev_pos (by omega) (ev_pos (by simp only [List.nil_append]; omega) ?_)))
    refine Ev.step (fun k => rfl) ?_
    simp only [slices_Concat_impl_DyePart_impl_DyePart.l1]
    exact ev_neg (by omega) (Ev.now _)
  unfold slices_Concat_impl_DyePart_impl_DyePart.f
  refine Ev.step (fun k => rfl) ?_
  simp only [slices_Concat_impl_DyePart_impl_DyePart.l0]
  rw [r0, n2, show wrap64 ((0 : Int) + 1) = 1 by unfold wrap64; omega, wrap_in (x := 0 + (a.length : Int)) (by omega) (by omega)]
  refine ev_pos (by omega) (ev_pos (by omega) (ev_pos (by omega) (ev_neg (by omega) ?_)))
  refine Ev.step (fun k => rfl) ?_
  simp only [slices_Concat_impl_DyePart_impl_DyePart.l0]
  rw [r1, n2, show wrap64 ((1 : Int) + 1) = 2 by unfold wrap64; omega, wrap_in (x := 0 + (a.length : Int) + (b.length : Int)) (by omega) (by omega)]
  refine ev_pos (by omega) (ev_pos (by omega) (ev_pos (by omega) (ev_neg (by omega) ?_)))
  refine Ev.step (fun k => rfl) ?_
  simp only [slices_Concat_impl_DyePart_impl_DyePart.l0]
  refine ev_neg (by omega) ?_
  have g : slices_Grow_impl_DyePart_impl_DyePart.f (0 + (a.length : Int) + (b.length : Int)) = some [] := by
    unfold slices_Grow_impl_DyePart_impl_DyePart.f
    rw [if_pos (by omega), if_pos (by omega)]
  rw [g]
  simp only [Option.bind_some]
  rw [n2]
  exact tail
theorem sort_mem (xs : List S36) (x : S36) : x ∈ sortP xs ↔ x ∈ xs := by
  have h := (sortP_both xs).1
  have hs := h.1
  have p := h.2.2
  have e1 : ((sortP xs).toArray.extract 0 xs.toArray.size).toList = sortP xs := by
    rw [← hs]
    simp
  have e2 : (xs.toArray.extract 0 xs.toArray.size).toList = xs := by simp
  rw [e1, e2] at p
  exact p.mem_iff
theorem sort_srt (xs : List S36) (i j : Nat) (hij : i < j) (hj : j < (sortP xs).length) : ¬ (rd_T36 (sortP xs) (j : Int)).f0.toList < (rd_T36 (sortP xs) (i : Int)).f0.toList := by
  have hn := sortP_len xs
  have h := (sortP_both xs).2 i j (Nat.zero_le _) hij (by simp; omega)
  rw [ltP, decide_eq_false_iff_not] at h
  have e : ∀ m : Nat, m < (sortP xs).length → (sortP xs).toArray[m]! = rd_T36 (sortP xs) (m : Int) := fun m hm => by
    rw [rdDyePart_at _ _ (by simpa using hm)]
    simp [hm]
  rw [e j hj, e i (by omega)] at h
  exact h
theorem Mix_both (a b : List S36) (ha : a.length ≤ 1048576) (hb : b.length ≤ 1048576) (hxa : ∀ x ∈ a, x.f0.size ≤ 9223372036854775807) (hxb : ∀ x ∈ b, x.f0.size ≤ 9223372036854775807) (s : Int) :
    ∃ r : List S36 × Bool, Ev (fun k => spec_MixRecipes.f k a b s) r ∧ Ev (fun k => impl_MixRecipes.f k a b s) r ∧ r.1.length ≤ 1048576 := by
  have jS : Ev (fun k => spec_MixRecipes.j0 k a b s true) (([] : List S36), false) := by
    refine Ev.step (fun k => rfl) ?_
    simp only [spec_MixRecipes.j0]
    exact ev_pos trivial (Ev.now _)
  have jI : Ev (fun k => impl_MixRecipes.j0 k a b s true) (([] : List S36), false) := by
    refine Ev.step (fun k => rfl) ?_
    simp only [impl_MixRecipes.j0]
    exact ev_pos trivial (Ev.now _)
  have sa := l7Good_ev a ha hxa
  have sb := l7Good_ev b hb hxb
  have ia := IsRecipe_ev a ha
  have ib := IsRecipe_ev b hb
  unfold spec_MixRecipes.f impl_MixRecipes.f
  cases ca : recB a with
  | false =>
    rw [ca] at sa ia
    exact ⟨_, Ev.bind sa (ev_neg (by simp) jS), Ev.bind ia (ev_neg (by simp) jI), by simp⟩
  | true =>
    cases cb : recB b with
    | false =>
      rw [ca] at sa ia
      rw [cb] at sb ib
      exact ⟨_, Ev.bind sa (ev_pos rfl (Ev.bind sb (ev_neg (by simp) jS))), Ev.bind ia (ev_pos rfl (Ev.bind ib (ev_neg (by simp) jI))), by simp⟩
    | true =>
      have fa := fair_of ca
      have fb := fair_of cb
      rw [ca] at sa ia
      rw [cb] at sb ib
      have inE := ev_eq (fun _ : Nat => in_eq s 0 100)
      have l1E := ev_eq (fun _ : Nat => l1In_eq s 0 100)
      cases cs : (decide (0 ≤ s) && decide (s ≤ 100)) with
      | false =>
        rw [cs] at inE l1E
        exact ⟨_, Ev.bind sa (ev_pos rfl (Ev.bind sb (ev_pos rfl (Ev.bind l1E jS)))), Ev.bind ia (ev_pos rfl (Ev.bind ib (ev_pos rfl (Ev.bind inE jI)))), by simp⟩
      | true =>
        rw [cs] at inE l1E
        rw [Bool.and_eq_true, decide_eq_true_eq, decide_eq_true_eq] at cs
        have f1 := fa.1
        have f2 := fb.1
        have nA : (a ++ b).length ≤ 100 := by rw [List.length_append]; omega
        obtain ⟨o1, v1, e1⟩ := spec_loop fa fb cs.1 cs.2 (a ++ b) nA (fun x hx => by
          rcases List.mem_append.mp hx with k | k
          · exact hxa x k
          · exact hxb x k) (a ++ b).length 0 [] (by omega) (inv_nil a b s)
        have nS : (sortP (a ++ b)).length ≤ 100 := by rw [sortP_len]; exact nA
        obtain ⟨o2, v2, e2⟩ := impl_loop fa fb cs.1 cs.2 (sortP (a ++ b)) nS (sort_srt (a ++ b)) (sortP (a ++ b)).length 0 [] (by omega) (inv_nil a b s)
        have e : o1 = o2 := inv_same v1 v2 (fun x => (sort_mem (a ++ b) x).symm)
        subst e
        refine ⟨finR o1, Ev.bind sa (ev_pos rfl (Ev.bind sb (ev_pos rfl (Ev.bind l1E ?_)))), Ev.bind ia (ev_pos rfl (Ev.bind ib (ev_pos rfl (Ev.bind inE ?_)))), ?_⟩
        · refine Ev.step (fun k => rfl) ?_
          simp only [spec_MixRecipes.j0, Option.bind_some]
          refine ev_neg (by simp) (ev_pos (by simp only [List.length_nil]; omega) (ev_pos (by simp only [List.nil_append]; omega) ?_))
          rw [List.nil_append]
          exact e1
        · refine Ev.step (fun k => rfl) ?_
          simp only [impl_MixRecipes.j0]
          exact ev_neg (by simp) (Ev.bind (concat_ev a b (by omega) (by omega)) (ev_pos (by omega) e2))
        · unfold finR
          split
          · have := v1.2.1
            show o1.length ≤ 1048576
            omega
          · simp
end Go.Proofs.YtceiacmieipleaaDoor.Pure
