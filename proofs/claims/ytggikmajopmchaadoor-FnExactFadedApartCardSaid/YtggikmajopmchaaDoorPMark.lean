/- Plain facts on the marks that a law lays into lists of ints and of shades. -/
import Derived.Test.YtggikmajopmchaaDoorGx3
import Derived.Test.YtggikmajopmchaaDoorGx6
import Derived.Test.YtggikmajopmchaaDoorGx7
import Derived.Test.YtggikmajopmchaaDoorPBase
namespace Go.Proofs.YtggikmajopmchaaDoor.Pure
open Go.RowKit Go.Proofs.YtggikmajopmchaaDoor.G Go.Proofs.YtggikmajopmchaaDoorW.PrintWords Go.Proofs.YtggikmajopmchaaDoorW.PrintLast
set_option linter.unusedSimpArgs false
set_option linter.unusedVariables false

theorem eqIntS_l0 (l : List Int) (hl : l.length ≤ 1048576) (d : Nat) : ∀ (k : Nat) (i : Int), 0 ≤ i → i + d = l.length → d < k → laws_eqIntS.l0 k l l i = some true := by
  induction d with
  | zero =>
    intro k i h0 h1 hk
    obtain ⟨k, rfl⟩ : ∃ m, k = m + 1 := ⟨k - 1, by omega⟩
    simp only [laws_eqIntS.l0]
    rw [if_neg (by omega)]
  | succ d ih =>
    intro k i h0 h1 hk
    obtain ⟨k, rfl⟩ : ∃ m, k = m + 1 := ⟨k - 1, by omega⟩
    simp only [laws_eqIntS.l0]
    rw [if_pos (by omega), if_pos h0, if_pos (by omega), if_pos trivial, wrap_in (by omega) (by omega)]
    exact ih k (i + 1) (by omega) (by omega) (by omega)
theorem eqIntS_eq (l : List Int) (hl : l.length ≤ 1048576) (k : Nat) (hk : l.length < k) : laws_eqIntS.f k l l = some true := by
  unfold laws_eqIntS.f
  rw [if_pos rfl]
  exact eqIntS_l0 l hl l.length k 0 (by omega) (by omega) hk
def marks (n : Nat) (m : Int) : List Int := (List.range n).map fun (j : Nat) => m + j
theorem marks_length (n : Nat) (m : Int) : (marks n m).length = n := by simp [marks]
theorem markIntS_l0 (m : Int) (h0m : 0 ≤ m) (hm : m ≤ 100000000) (d : Nat) : ∀ (k : Nat) (x : List Int) (i : Int), x.length ≤ 1048576 → 0 ≤ i → i + d = x.length → (∀ j : Nat, (j : Int) < i → x[j]? = some (m + j)) → d < k → laws_markIntS.l0 k x (m + i) i = some (m + x.length, marks x.length m) := by
  induction d with
  | zero =>
    intro k x i hx h0 h1 h3 hk
    obtain ⟨k, rfl⟩ : ∃ q, k = q + 1 := ⟨k - 1, by omega⟩
    simp only [laws_markIntS.l0]
    rw [if_neg (by omega)]
    have e : x = marks x.length m := by
      apply List.ext_getElem?
      intro j
      by_cases hj : j < x.length
      · rw [h3 j (by omega)]; simp [marks, hj]
      · rw [List.getElem?_eq_none (by omega), List.getElem?_eq_none (by rw [marks_length]; omega)]
    rw [← e, show m + i = m + (x.length : Int) by omega]
  | succ d ih =>
    intro k x i hx h0 h1 h3 hk
    obtain ⟨k, rfl⟩ : ∃ q, k = q + 1 := ⟨k - 1, by omega⟩
    simp only [laws_markIntS.l0]
    rw [if_pos (by omega), if_pos h0, wrap_in (by omega) (by omega), wrap_in (by omega) (by omega)]
    have := ih k (x.set i.toNat (m + i)) (i + 1) (by simpa using hx) (by omega) (by simp; omega) (fun j hj => by
      rw [List.getElem?_set]
      by_cases e : i.toNat = j
      · subst e; rw [if_pos rfl, if_pos (by omega)]; congr 1; omega
      · rw [if_neg e]; exact h3 j (by omega)) (by omega)
    simp only [List.length_set] at this
    rw [← this]
    congr 1
    omega
theorem markIntS_eq (l : List Int) (m : Int) (hl : l.length ≤ 1048576) (h0m : 0 ≤ m) (hm : m ≤ 100000000) (k : Nat) (hk : l.length < k) : laws_markIntS.f k l m = some (m + l.length, marks l.length m) := by
  unfold laws_markIntS.f
  have := markIntS_l0 m h0m hm l.length k l 0 hl (by omega) (by omega) (fun j hj => by omega) hk
  simpa using this
theorem heldIntS_l0 (n : Nat) (m : Int) (hn : n ≤ 1048576) (h0m : 0 ≤ m) (hm : m ≤ 100000000) (d : Nat) : ∀ (k : Nat) (i : Int), 0 ≤ i → i + d = n → d < k → laws_heldIntS.l0 k (marks n m) (m + i) i = some (m + n) := by
  induction d with
  | zero =>
    intro k i h0 h1 hk
    obtain ⟨k, rfl⟩ : ∃ q, k = q + 1 := ⟨k - 1, by omega⟩
    simp only [laws_heldIntS.l0]
    rw [if_neg (by rw [marks_length]; omega)]
    congr 1; omega
  | succ d ih =>
    intro k i h0 h1 hk
    obtain ⟨k, rfl⟩ : ∃ q, k = q + 1 := ⟨k - 1, by omega⟩
    simp only [laws_heldIntS.l0]
    have e : rd (marks n m) i = m + i := by
      rw [rd_at _ _ (by rw [marks_length]; omega)]
      simp only [marks, List.getElem_map, List.getElem_range]
      omega
    rw [if_pos (by rw [marks_length]; omega), if_pos h0, if_pos e, wrap_in (by omega) (by omega), wrap_in (by omega) (by omega)]
    have := ih k (i + 1) (by omega) (by omega) (by omega)
    rw [← this]
    congr 1
    omega
theorem heldIntS_eq (n : Nat) (m : Int) (hn : n ≤ 1048576) (h0m : 0 ≤ m) (hm : m ≤ 100000000) (k : Nat) (hk : n < k) : laws_heldIntS.f k (marks n m) m = some (m + n) := by
  unfold laws_heldIntS.f
  have := heldIntS_l0 n m hn h0m hm n k 0 (by omega) (by omega) hk
  simpa using this
theorem markText_ev (m : Int) (h0 : 0 ≤ m) (h1 : m ≤ 1000000000) : ∃ t, Ev (fun k => laws_markText.f k m) t := by
  have one : ∀ x : Int, (strOfNums [x]).size = 1 := fun x => by simp [strOfNums, ByteArray.size]
  have loop : ∀ (d : Nat) (x : Int) (s : ByteArray), 0 ≤ x → x ≤ d → x ≤ 1000000000 → s.size + d ≤ 2000000000 → ∃ t, Ev (fun k => laws_markText.l0 k x s) t := by
    intro d
    induction d with
    | zero =>
      intro x s hx hd hb hs
      refine ⟨(⟨#[109]⟩ : ByteArray) ++ s, Ev.step (fun k => rfl) ?_⟩
      simp only [laws_markText.l0]
      exact ev_neg (by omega) (ev_pos (by omega) (Ev.now _))
    | succ d ih =>
      intro x s hx hd hb hs
      by_cases c : x > 0
      · obtain ⟨t, ht⟩ := ih (x / 10) (strOfNums [wrap64 (48 + Int.tmod x 10) % 256] ++ s) (by omega) (by omega) (by omega) (by rw [ByteArray.size_append, one]; omega)
        refine ⟨t, Ev.step (fun k => rfl) ?_⟩
        simp only [laws_markText.l0, Option.bind_some]
        rw [tdiv_nn hx, wrap_in (x := x / 10) (by omega) (by omega)]
        exact ev_pos c (ev_pos (by rw [one]; omega) ht)
      · refine ⟨(⟨#[109]⟩ : ByteArray) ++ s, Ev.step (fun k => rfl) ?_⟩
        simp only [laws_markText.l0]
        exact ev_neg c (ev_pos (by omega) (Ev.now _))
  unfold laws_markText.f
  by_cases c : m ≤ 0
  · exact ⟨_, ev_pos c (Ev.now _)⟩
  · obtain ⟨t, ht⟩ := loop m.toNat m ⟨#[]⟩ h0 (by omega) h1 (by show (0 : Nat) + _ ≤ _; omega)
    exact ⟨t, ev_neg c ht⟩
theorem markIntS_ev (l : List Int) (hl : l.length ≤ 1048576) (m : Int) (h0 : 0 ≤ m) (h1 : m ≤ 100000000) : Ev (fun k => laws_markIntS.f k l m) (m + l.length, marks l.length m) := ⟨l.length + 1, fun k hk => markIntS_eq l m hl h0 h1 k (by omega)⟩
theorem heldIntS_ev (n : Nat) (hn : n ≤ 1048576) (m : Int) (h0 : 0 ≤ m) (h1 : m ≤ 100000000) : Ev (fun k => laws_heldIntS.f k (marks n m) m) (m + n) := ⟨n + 1, fun k hk => heldIntS_eq n m hn h0 h1 k (by omega)⟩
theorem eqIntS_ev (l : List Int) (hl : l.length ≤ 1048576) : Ev (fun k => laws_eqIntS.f k l l) true := ⟨l.length + 1, fun k hk => eqIntS_eq l hl k (by omega)⟩
theorem markSh_ev (l : List S42) (hl : l.length ≤ 1048576) (m : Int) (h0 : 0 ≤ m) (h1 : m ≤ 100000000) : ∃ l', Ev (fun k => laws_markShadeS.f k l m) (m + 5 * l.length, l') := by
  have loop : ∀ (d : Nat) (i : Nat) (x : List S42), x.length = l.length → i + d = l.length → ∃ l', Ev (fun k => laws_markShadeS.l0 k x (m + 5 * i) (i : Int)) (m + 5 * l.length, l') := by
    intro d
    induction d with
    | zero =>
      intro i x hx hi
      refine ⟨x, Ev.step (fun k => rfl) ?_⟩
      simp only [laws_markShadeS.l0]
      refine ev_neg (by omega) (ev_val ?_ (Ev.now _))
      rw [show i = l.length by omega]
    | succ d ih =>
      intro i x hx hi
      obtain ⟨t, ht⟩ := markText_ev (m + 5 * i + 1) (by omega) (by omega)
      have key := fun x' (h : x'.length = l.length) => ih (i + 1) x' h (by omega)
      have e : m + 5 * ((i + 1 : Nat) : Int) = m + 5 * (i : Int) + 1 + 1 + 1 + 1 + 1 := by omega
      have e2 : ((i + 1 : Nat) : Int) = (i : Int) + 1 := by omega
      rw [e] at key
      rw [e2] at key
      apply Exists.intro
      refine Ev.step (fun k => rfl) ?_
      simp only [laws_markShadeS.l0, Option.bind_some]
      rw [wrap_in (x := m + 5 * (i : Int) + 1) (by omega) (by omega), wrap_in (x := m + 5 * (i : Int) + 1 + 1) (by omega) (by omega), wrap_in (x := m + 5 * (i : Int) + 1 + 1 + 1) (by omega) (by omega), wrap_in (x := m + 5 * (i : Int) + 1 + 1 + 1 + 1) (by omega) (by omega), wrap_in (x := m + 5 * (i : Int) + 1 + 1 + 1 + 1 + 1) (by omega) (by omega), wrap_in (x := (i : Int) + 1) (by omega) (by omega)]
      refine ev_pos (by omega) (ev_pos (by omega) (Ev.bind ht ?_))
      exact (key _ (by simpa using hx)).choose_spec
  obtain ⟨l', h⟩ := loop l.length 0 l rfl (by omega)
  refine ⟨l', ?_⟩
  simpa [laws_markShadeS.f] using h
end Go.Proofs.YtggikmajopmchaaDoor.Pure
