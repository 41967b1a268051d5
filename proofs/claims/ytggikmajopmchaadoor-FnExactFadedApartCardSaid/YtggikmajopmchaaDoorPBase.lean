/- Plain facts on shades and lists of shades: copies, comparisons, sizes, validity. -/
import Derived.Test.YtggikmajopmchaaDoorGx0
import Derived.Test.YtggikmajopmchaaDoorGx1
import Derived.Test.YtggikmajopmchaaDoorGx2
import Derived.Test.YtggikmajopmchaaDoorGx3
import Derived.Test.YtggikmajopmchaaDoorGx4
import Derived.Test.YtggikmajopmchaaDoorGx5
import Derived.Test.YtggikmajopmchaaDoorGx7
import Derived.Test.YtggikmajopmchaaDoorGx8
namespace Go.Proofs.YtggikmajopmchaaDoor.Pure
open Go.RowKit Go.Proofs.YtggikmajopmchaaDoor.G Go.Proofs.YtggikmajopmchaaDoorW.PrintWords Go.Proofs.YtggikmajopmchaaDoorW.PrintLast
set_option linter.unusedSimpArgs false
set_option linter.unusedVariables false

theorem wrap_in {x : Int} (h0 : -9223372036854775808 ≤ x) (h1 : x ≤ 9223372036854775807) : wrap64 x = x := by unfold wrap64; omega
theorem rd_at (l : List Int) (i : Int) (h : i.toNat < l.length) : rd l i = l[i.toNat] := by simp [rd, h]
theorem l1In_eq (a lo hi : Int) : spec_l1In.f a lo hi = some (decide (lo ≤ a) && decide (a ≤ hi)) := by
  unfold spec_l1In.f
  by_cases h : a ≥ lo
  · rw [if_pos h, decide_eq_true (show lo ≤ a from h)]; rfl
  · rw [if_neg h, decide_eq_false (show ¬ lo ≤ a from h)]; rfl
theorem in_eq (a lo hi : Int) : impl_in.f a lo hi = some (decide (lo ≤ a) && decide (a ≤ hi)) := by
  unfold impl_in.f
  by_cases h : a ≥ lo
  · rw [if_pos h, decide_eq_true (show lo ≤ a from h)]; rfl
  · rw [if_neg h, decide_eq_false (show ¬ lo ≤ a from h)]; rfl
/-! ### rounds that come to an end -/
theorem ev_pos {α : Type} {c : Prop} [Decidable c] {f g : Nat → Option α} {r : α} (h : c) (k : Ev f r) : Ev (fun n => if c then f n else g n) r := Ev.congr (fun n => if_pos h) k
theorem ev_neg {α : Type} {c : Prop} [Decidable c] {f g : Nat → Option α} {r : α} (h : ¬ c) (k : Ev g r) : Ev (fun n => if c then f n else g n) r := Ev.congr (fun n => if_neg h) k
theorem ev_eq {α : Type} {f : Nat → Option α} {r : α} (h : ∀ k, f k = some r) : Ev f r := ⟨0, fun k _ => h k⟩
theorem ev_val {α : Type} {f : Nat → Option α} {r s : α} (h : r = s) (k : Ev f r) : Ev f s := h ▸ k
/-! ### what holds from a place on -/
def allFrom (p : Nat → Bool) : Nat → Nat → Bool
  | 0, _ => true
  | d + 1, i => p i && allFrom p d (i + 1)
theorem allFrom_iff (p : Nat → Bool) : ∀ d i, allFrom p d i = true ↔ ∀ j, i ≤ j → j < i + d → p j = true
  | 0, i => by
    simp only [allFrom, true_iff]
    intro j h1 h2
    omega
  | d + 1, i => by
    simp only [allFrom, Bool.and_eq_true]
    rw [allFrom_iff p d (i + 1)]
    constructor
    · rintro ⟨h1, h2⟩ j a b
      by_cases e : j = i
      · subst e; exact h1
      · exact h2 j (by omega) (by omega)
    · intro h
      exact ⟨h i (by omega) (by omega), fun j a b => h j (by omega) (by omega)⟩
theorem all_get {α : Type} (l : List α) (z : α) (p : α → Bool) : l.all p = true ↔ ∀ j, j < l.length → p (l.getD j z) = true := by
  rw [List.all_eq_true]
  constructor
  · intro h j hj
    have : l.getD j z ∈ l := by
      rw [List.getD_eq_getElem?_getD, List.getElem?_eq_getElem hj]
      exact List.getElem_mem hj
    exact h _ this
  · intro h x hx
    obtain ⟨j, hj, e⟩ := List.getElem_of_mem hx
    have := h j hj
    rw [List.getD_eq_getElem?_getD, List.getElem?_eq_getElem hj, Option.getD_some, e] at this
    exact this
theorem bool_iff {a b : Bool} (h : a = true ↔ b = true) : a = b := by
  cases a <;> cases b <;> simp_all
/-! ### numbers -/
theorem tdiv_nn {a b : Int} (h : 0 ≤ a) : Int.tdiv a b = a / b := Int.tdiv_eq_ediv_of_nonneg h
theorem tmod_nn {a b : Int} (h : 0 ≤ a) : Int.tmod a b = a % b := Int.tmod_eq_emod_of_nonneg h
theorem mul_bound {a b A B : Int} (a0 : 0 ≤ a) (a1 : a ≤ A) (b0 : 0 ≤ b) (b1 : b ≤ B) : 0 ≤ a * b ∧ a * b ≤ A * B :=
  ⟨Int.mul_nonneg a0 b0, Int.mul_le_mul a1 b1 b0 (by omega)⟩
/-! ### words -/
theorem letters_eq (b : UInt8) : letters.contains b = (decide (97 ≤ b.toNat) && decide (b.toNat ≤ 122)) := by
  have h : ∀ n : Fin 256, letters.contains (UInt8.ofNat n.val) = (decide (97 ≤ n.val) && decide (n.val ≤ 122)) := by decide +kernel
  have h2 := h ⟨b.toNat, b.toNat_lt⟩
  simpa using h2
theorem bt_getD (s : ByteArray) (j : Nat) (h : j < s.size) : bt s (j : Int) = ((s.data.toList.getD j 0).toNat : Int) := by
  have h2 : (j : Int).toNat < s.size := by simpa using h
  rw [← bt_at s j h2]
  have h3 : j < s.data.toList.length := by simpa using h
  rw [List.getD_eq_getElem?_getD, List.getElem?_eq_getElem h3]
  rfl
def letterAt (s : ByteArray) (j : Nat) : Bool := decide (97 ≤ bt s (j : Int)) && decide (bt s (j : Int) ≤ 122)
theorem wordB_eq (s : ByteArray) : wordB s = (allFrom (letterAt s) s.size 0 && (decide (1 ≤ (s.size : Int)) && decide ((s.size : Int) ≤ 10))) := by
  unfold wordB
  have hl : s.data.toList.length = s.size := by simp
  apply bool_iff
  simp only [Bool.and_eq_true, decide_eq_true_eq]
  rw [all_get _ 0, allFrom_iff, hl]
  constructor
  · rintro ⟨h1, h2, h3⟩
    refine ⟨fun j _ hj => ?_, by omega, by omega⟩
    have := h3 j (by omega)
    rw [letters_eq] at this
    simp only [Bool.and_eq_true, decide_eq_true_eq] at this
    unfold letterAt
    rw [bt_getD s j (by omega)]
    simp only [Bool.and_eq_true, decide_eq_true_eq]
    omega
  · rintro ⟨h1, h2, h3⟩
    refine ⟨by omega, by omega, fun j hj => ?_⟩
    have := h1 j (by omega) (by omega)
    unfold letterAt at this
    rw [bt_getD s j (by omega)] at this
    simp only [Bool.and_eq_true, decide_eq_true_eq] at this
    rw [letters_eq]
    simp only [Bool.and_eq_true, decide_eq_true_eq]
    omega
theorem l2Word_ev (s : ByteArray) (hs : s.size ≤ 9223372036854775807) : Ev (fun k => spec_l2Word.f k s) (wordB s) := by
  rw [wordB_eq]
  have loop : ∀ (d i : Nat), i + d = s.size → Ev (fun k => spec_l2Word.l0 k s (i : Int)) (allFrom (letterAt s) d i && (decide (1 ≤ (s.size : Int)) && decide ((s.size : Int) ≤ 10))) := by
    intro d
    induction d with
    | zero =>
      intro i hi
      refine Ev.step (fun k => rfl) ?_
      simp only [spec_l2Word.l0, l1In_eq, Option.bind_some, allFrom, Bool.true_and]
      exact ev_neg (by omega) (Ev.now _)
    | succ d ih =>
      intro i hi
      refine Ev.step (fun k => rfl) ?_
      simp only [spec_l2Word.l0]
      refine ev_pos (by omega) (ev_pos (by omega) ?_)
      rw [wrap_in (x := (i : Int) + 1) (by omega) (by omega)]
      by_cases c1 : bt s (i : Int) < 97
      · refine ev_pos c1 (ev_val ?_ (Ev.now false))
        simp only [allFrom, letterAt]
        rw [decide_eq_false (show ¬ 97 ≤ bt s (i : Int) by omega)]
        rfl
      · by_cases c2 : bt s (i : Int) > 122
        · refine ev_neg c1 (ev_pos c2 (ev_val ?_ (Ev.now false)))
          simp only [allFrom, letterAt]
          rw [decide_eq_false (show ¬ bt s (i : Int) ≤ 122 by omega)]
          simp
        · refine ev_neg c1 (ev_neg c2 ?_)
          have := ih (i + 1) (by omega)
          simp only [allFrom, letterAt]
          rw [decide_eq_true (show 97 ≤ bt s (i : Int) by omega), decide_eq_true (show bt s (i : Int) ≤ 122 by omega)]
          simpa [letterAt] using this
  exact loop s.size 0 (by omega)
/-! ### shades -/
/-- What a valid shade is. -/
def shadeB (a : Int) (n : ByteArray) (b c d : Int) : Bool := (decide (1 ≤ a) && decide (a ≤ 99)) && (wordB n && ((decide (0 ≤ b) && decide (b ≤ 23)) && ((decide (0 ≤ c) && decide (c ≤ 9)) && (decide (1 ≤ d) && decide (d ≤ 8)))))
theorem l3One_ev (a : Int) (n : ByteArray) (b c d : Int) (hn : n.size ≤ 9223372036854775807) : Ev (fun k => spec_l3One.f k a n b c d) (shadeB a n b c d) := by
  have hw := l2Word_ev n hn
  unfold spec_l3One.f spec_l3Step.f spec_l3Depth.f shadeB
  simp only [l1In_eq, Option.bind_some]
  cases (decide (1 ≤ a) && decide (a ≤ 99)) with
  | false => exact ev_neg (by simp) (Ev.now _)
  | true =>
    refine ev_pos (by trivial) (Ev.bind hw ?_)
    cases wordB n with
    | false => exact ev_neg (by simp) (Ev.now _)
    | true =>
      refine ev_pos (by trivial) ?_
      cases (decide (0 ≤ b) && decide (b ≤ 23)) with
      | false => exact ev_neg (by simp) (Ev.now _)
      | true =>
        refine ev_pos (by trivial) ?_
        cases (decide (0 ≤ c) && decide (c ≤ 9)) with
        | false => exact ev_neg (by simp) (Ev.now _)
        | true => exact ev_pos (by trivial) (Ev.now _)
theorem IsShade_eq (a : Int) (n : ByteArray) (b c d : Int) : impl_IsShade.f a n b c d = some (shadeB a n b c d) := by
  unfold impl_IsShade.f impl_isId.f impl_isStep.f impl_isWord.f shadeB
  simp only [in_eq, Option.bind_some]
  cases (decide (1 ≤ a) && decide (a ≤ 99)) <;> cases wordB n <;> cases (decide (0 ≤ b) && decide (b ≤ 23)) <;> cases (decide (0 ≤ c) && decide (c ≤ 9)) <;> cases (decide (1 ≤ d) && decide (d ≤ 8)) <;> rfl
theorem shade_parts {a : Int} {n : ByteArray} {b c d : Int} (h : shadeB a n b c d = true) : 1 ≤ a ∧ a ≤ 99 ∧ 0 ≤ b ∧ b ≤ 23 ∧ 0 ≤ c ∧ c ≤ 9 ∧ 1 ≤ d ∧ d ≤ 8 ∧ n.size ≤ 10 := by
  unfold shadeB wordB at h
  simp only [Bool.and_eq_true, decide_eq_true_eq] at h
  omega
theorem toShade_eq (a : Int) (n : ByteArray) (b c d : Int) : laws_toShade.f a n b c d = some (a, n, b, c, d) := rfl
theorem eqShade_eq (a : Int) (n : ByteArray) (b c d : Int) : laws_eqShade.f a n b c d a n b c d = some true := by
  unfold laws_eqShade.f
  simp
theorem szShade_eq (a : Int) (n : ByteArray) (b c d m : Int) (h0 : 0 ≤ m) (h1 : m ≤ 1048576) (hn : n.size ≤ 9223372036854775807) : ∃ r, laws_szShade.f a n b c d m = some r ∧ r ≤ 1048576 := by
  unfold laws_szShade.f
  rw [wrap_in (x := m - (n.size : Int)) (by omega) (by omega)]
  by_cases c1 : m - (n.size : Int) < 0
  · exact ⟨-1, if_pos c1, by omega⟩
  · exact ⟨_, if_neg c1, by omega⟩
/-! ### lists of Shade: copies, comparisons, marks -/
def toShade (x : S38) : S42 := ⟨x.f0, x.f1, x.f2, x.f3, x.f4⟩
theorem rdShade_at (l : List S42) (i : Int) (h : i.toNat < l.length) : rd_T42 l i = l[i.toNat] := by simp [rd_T42, h]
theorem rdShade0_at (l : List S38) (i : Int) (h : i.toNat < l.length) : rd_T38 l i = l[i.toNat] := by simp [rd_T38, h]
theorem rdShade_set (l : List S42) (i : Int) (v : S42) (h : i.toNat < l.length) : rd_T42 (l.set i.toNat v) i = v := by rw [rdShade_at _ _ (by simpa using h)]; simp
theorem toShadeS_l0 (l : List S38) (hl : l.length ≤ 1048576) (d : Nat) : ∀ (k : Nat) (x3 : List S42) (i : Int), 0 ≤ i → i + d = l.length → x3.length = l.length → (∀ j : Nat, (j : Int) < i → x3[j]? = (l.map toShade)[j]?) → d < k → laws_toShadeS.l0 k l x3 i = some (l.map toShade) := by
  induction d with
  | zero =>
    intro k x3 i h0 h1 h2 h3 hk
    obtain ⟨k, rfl⟩ : ∃ m, k = m + 1 := ⟨k - 1, by omega⟩
    simp only [laws_toShadeS.l0]
    rw [if_neg (by omega)]
    congr 1
    apply List.ext_getElem?
    intro j
    by_cases hj : j < l.length
    · exact h3 j (by omega)
    · rw [List.getElem?_eq_none (by omega), List.getElem?_eq_none (by simp; omega)]
  | succ d ih =>
    intro k x3 i h0 h1 h2 h3 hk
    obtain ⟨k, rfl⟩ : ∃ m, k = m + 1 := ⟨k - 1, by omega⟩
    simp only [laws_toShadeS.l0, laws_toShade.f, Option.bind_some]
    rw [if_pos (by omega), if_pos h0, if_pos (by omega), wrap_in (by omega) (by omega)]
    refine ih k _ (i + 1) (by omega) (by omega) (by simpa using h2) (fun j hj => ?_) (by omega)
    rw [List.getElem?_set]
    by_cases e : i.toNat = j
    · subst e
      have hi : i.toNat < l.length := by omega
      rw [if_pos rfl, if_pos (by omega), rdShade0_at l i hi, List.getElem?_map, List.getElem?_eq_getElem hi]
      rfl
    · rw [if_neg e]
      exact h3 j (by omega)
theorem toShadeS_eq (l : List S38) (hl : l.length ≤ 1048576) (k : Nat) (hk : l.length < k) : laws_toShadeS.f k l = some (l.map toShade) := by
  unfold laws_toShadeS.f
  rw [if_pos (by omega), if_pos (by omega)]
  exact toShadeS_l0 l hl l.length k _ 0 (by omega) (by omega) (by simp) (fun j hj => by omega) hk
theorem eqShadeS_l0 (l : List S42) (hl : l.length ≤ 1048576) (d : Nat) : ∀ (k : Nat) (i : Int), 0 ≤ i → i + d = l.length → d < k → laws_eqShadeS.l0 k l l i = some true := by
  induction d with
  | zero =>
    intro k i h0 h1 hk
    obtain ⟨k, rfl⟩ : ∃ m, k = m + 1 := ⟨k - 1, by omega⟩
    simp only [laws_eqShadeS.l0]
    rw [if_neg (by omega)]
  | succ d ih =>
    intro k i h0 h1 hk
    obtain ⟨k, rfl⟩ : ∃ m, k = m + 1 := ⟨k - 1, by omega⟩
    simp only [laws_eqShadeS.l0, laws_eqShade.f, if_true, Option.bind_some]
    rw [if_pos (by omega), if_pos h0, if_pos (by omega), wrap_in (by omega) (by omega)]
    exact ih k (i + 1) (by omega) (by omega) (by omega)
theorem eqShadeS_eq (l : List S42) (hl : l.length ≤ 1048576) (k : Nat) (hk : l.length < k) : laws_eqShadeS.f k l l = some true := by
  unfold laws_eqShadeS.f
  rw [if_pos rfl]
  exact eqShadeS_l0 l hl l.length k 0 (by omega) (by omega) hk
theorem rdS0_mem (l : List S38) (i : Int) (h0 : 0 ≤ i) (h1 : i < l.length) : rd_T38 l i ∈ l := by
  rw [rdShade0_at l i (by omega)]
  exact List.getElem_mem _
theorem rdS_mem (l : List S42) (i : Int) (h0 : 0 ≤ i) (h1 : i < l.length) : rd_T42 l i ∈ l := by
  rw [rdShade_at l i (by omega)]
  exact List.getElem_mem _
theorem toS_ev (l : List S38) (hl : l.length ≤ 1048576) : Ev (fun k => laws_toShadeS.f k l) (l.map toShade) := ⟨l.length + 1, fun k hk => toShadeS_eq l hl k (by omega)⟩
theorem eqS_ev (l : List S42) (hl : l.length ≤ 1048576) : Ev (fun k => laws_eqShadeS.f k l l) true := ⟨l.length + 1, fun k hk => eqShadeS_eq l hl k (by omega)⟩
theorem szS_l0 (l : List S38) (hl : l.length ≤ 1048576) (hx : ∀ x ∈ l, x.f1.size ≤ 9223372036854775807) (d : Nat) : ∀ (i a : Int), 0 ≤ i → i + d = l.length → 0 ≤ a → a ≤ 1048576 → ∃ r, Ev (fun k => laws_szShadeS.l0 k l a i) r ∧ r ≤ 1048576 := by
  induction d with
  | zero =>
    intro i a h0 h1 h2 h3
    refine ⟨a, Ev.step (fun k => rfl) ?_, h3⟩
    simp only [laws_szShadeS.l0]
    exact ev_neg (by omega) (Ev.now _)
  | succ d ih =>
    intro i a h0 h1 h2 h3
    have hm := hx _ (rdS0_mem l i h0 (by omega))
    by_cases c : a - ((rd_T38 l i).f1.size : Int) < 0
    · refine ⟨-1, Ev.step (fun k => rfl) ?_, by omega⟩
      simp only [laws_szShadeS.l0, laws_szShade.f]
      rw [wrap_in (x := a - ((rd_T38 l i).f1.size : Int)) (by omega) (by omega), if_pos c]
      exact ev_pos (by omega) (ev_pos h0 (Ev.bind (Ev.now _) (ev_pos (by omega) (Ev.now _))))
    · obtain ⟨r, e1, e2⟩ := ih (i + 1) (a - ((rd_T38 l i).f1.size : Int)) (by omega) (by omega) (by omega) (by omega)
      refine ⟨r, Ev.step (fun k => rfl) ?_, e2⟩
      simp only [laws_szShadeS.l0, laws_szShade.f]
      rw [wrap_in (x := a - ((rd_T38 l i).f1.size : Int)) (by omega) (by omega), if_neg c, wrap_in (x := i + 1) (by omega) (by omega)]
      exact ev_pos (by omega) (ev_pos h0 (Ev.bind (Ev.now _) (ev_neg (by omega) e1)))
/-- The size of a card: either it is too great, or the card is short. -/
theorem szS_ev (l : List S38) (hl : l.length ≤ 9223372036854775807) (hx : ∀ x ∈ l, x.f1.size ≤ 9223372036854775807) : ∃ r, Ev (fun k => laws_szShadeS.f k l 1048576) r ∧ (¬ r < 0 → l.length ≤ 1048576) ∧ r ≤ 1048576 := by
  unfold laws_szShadeS.f
  rw [wrap_in (x := 1048576 - (l.length : Int)) (by omega) (by omega)]
  by_cases c : 1048576 - (l.length : Int) < 0
  · exact ⟨-1, ev_pos c (Ev.now _), fun h => by omega, by omega⟩
  · obtain ⟨r, hr, hb⟩ := szS_l0 l (by omega) hx l.length 0 (1048576 - l.length) (by omega) (by omega) (by omega) (by omega)
    exact ⟨r, ev_neg c hr, fun h => by omega, hb⟩
end Go.Proofs.YtggikmajopmchaaDoor.Pure
