/- Plain facts on marks of lists of strings, and on SplitString. -/
import Derived.Test.YtehbjmcbpmoonaaDoorGx3
import Derived.Test.YtehbjmcbpmoonaaDoorGx5
import Derived.Test.YtehbjmcbpmoonaaDoorGx6
import Derived.Test.YtehbjmcbpmoonaaDoorPSplitB
namespace Go.Proofs.YtehbjmcbpmoonaaDoor.Pure
open Go.RowKit Go.Proofs.YtehbjmcbpmoonaaDoor.G Go.Proofs.YtehbjmcbpmoonaaDoorW.PrintWords Go.Proofs.YtehbjmcbpmoonaaDoorW.PrintLast
set_option linter.unusedSimpArgs false
set_option linter.unusedVariables false

theorem rs_at (l : List ByteArray) (i : Int) (h : i.toNat < l.length) : rdOf ByteArray.empty l i = l[i.toNat] := by simp [rdOf, h]
theorem eqStringS_l0 (l : List ByteArray) (hl : l.length ≤ 1048576) (d : Nat) : ∀ (k : Nat) (i : Int), 0 ≤ i → i + d = l.length → d < k → laws_eqStringS.l0 k l l i = some true := by
  induction d with
  | zero =>
    intro k i h0 h1 hk
    obtain ⟨k, rfl⟩ : ∃ m, k = m + 1 := ⟨k - 1, by omega⟩
    simp only [laws_eqStringS.l0]
    rw [if_neg (by omega)]
  | succ d ih =>
    intro k i h0 h1 hk
    obtain ⟨k, rfl⟩ : ∃ m, k = m + 1 := ⟨k - 1, by omega⟩
    simp only [laws_eqStringS.l0]
    rw [if_pos (by omega), if_pos h0, if_pos (by omega), if_pos trivial, wrap_in (by omega) (by omega)]
    exact ih k (i + 1) (by omega) (by omega) (by omega)
theorem eqStringS_ev (l : List ByteArray) (hl : l.length ≤ 1048576) : Ev (fun k => laws_eqStringS.f k l l) true := ⟨l.length + 1, fun k hk => by
  show laws_eqStringS.f k l l = some true
  unfold laws_eqStringS.f
  rw [if_pos rfl]
  exact eqStringS_l0 l hl l.length k 0 (by omega) (by omega) (by omega)⟩
theorem text_l0 (n : Nat) : ∀ (x : ByteArray), x.size + n ≤ 1099511627776 → n ≤ 10000000 → ∃ r, Ev (fun k => laws_markText.l0 k (n : Int) x) r := by
  induction n using Nat.strongRecOn with
  | ind n ih =>
    intro x hx hn
    by_cases c : n = 0
    · subst c
      refine ⟨(⟨#[109]⟩ : ByteArray) ++ x, Ev.step (fun k => rfl) ?_⟩
      simp only [laws_markText.l0]
      exact ev_neg (by omega) (ev_pos (by omega) (Ev.now _))
    · have e1 : wrap64 (Int.tdiv (n : Int) 10) = ((n / 10 : Nat) : Int) := by rw [tdiv_nn (by omega), wrap_in (by omega) (by omega)]; omega
      have z : (strOfNums [(wrap64 (48 + Int.tmod (n : Int) 10)) % 256]).size = 1 := rfl
      obtain ⟨r, hr⟩ := ih (n / 10) (by omega) (strOfNums [(wrap64 (48 + Int.tmod (n : Int) 10)) % 256] ++ x) (by rw [ByteArray.size_append, z]; omega) (by omega)
      refine ⟨r, Ev.step (fun k => rfl) ?_⟩
      simp only [laws_markText.l0]
      rw [e1]
      refine ev_pos (by omega) (Ev.bind (Ev.now _) ?_)
      rw [z]
      exact ev_pos (by omega) hr
theorem text_ev : ∃ mt : Int → ByteArray, ∀ n : Int, 0 ≤ n → n ≤ 10000000 → Ev (fun k => laws_markText.f k n) (mt n) := by
  have h : ∀ n : Int, ∃ r : ByteArray, 0 ≤ n → n ≤ 10000000 → Ev (fun k => laws_markText.f k n) r := by
    intro n
    by_cases c : 0 ≤ n ∧ n ≤ 10000000
    · by_cases c0 : n ≤ 0
      · exact ⟨_, fun _ _ => by unfold laws_markText.f; exact ev_pos c0 (Ev.now _)⟩
      · obtain ⟨m, rfl⟩ : ∃ m : Nat, n = m := ⟨n.toNat, by omega⟩
        have z : (⟨#[]⟩ : ByteArray).size = 0 := rfl
        obtain ⟨r, hr⟩ := text_l0 m (⟨#[]⟩ : ByteArray) (by omega) (by omega)
        exact ⟨r, fun _ _ => by unfold laws_markText.f; exact ev_neg c0 hr⟩
    · exact ⟨ByteArray.empty, fun a b => absurd ⟨a, b⟩ c⟩
  exact ⟨fun n => Classical.choose (h n), fun n => Classical.choose_spec (h n)⟩
theorem mark_l0 (mt : Int → ByteArray) (hm : ∀ n : Int, 0 ≤ n → n ≤ 10000000 → Ev (fun k => laws_markText.f k n) (mt n)) (d : Nat) : ∀ (x : List ByteArray) (i : Int), 0 ≤ i → i + d = x.length → x.length ≤ 5000000 → (∀ j : Nat, (j : Int) < i → x[j]? = some (mt (1 + j))) →
    ∃ y : List ByteArray, Ev (fun k => laws_markStringS.l0 k x (1 + i) i) (1 + (x.length : Int), y) ∧ y.length = x.length ∧ ∀ j : Nat, j < y.length → y[j]? = some (mt (1 + j)) := by
  induction d with
  | zero =>
    intro x i h0 h1 hl hx
    refine ⟨x, Ev.step (fun k => rfl) ?_, rfl, fun j hj => hx j (by omega)⟩
    simp only [laws_markStringS.l0]
    exact ev_neg (by omega) (ev_val (by rw [show (x.length : Int) = i by omega]) (Ev.now _))
  | succ d ih =>
    intro x i h0 h1 hl hx
    obtain ⟨y, hy, hy1, hy2⟩ := ih (x.set i.toNat (mt (1 + i))) (i + 1) (by omega) (by rw [List.length_set]; omega) (by rw [List.length_set]; omega) (fun j hj => by
      rw [List.getElem?_set]
      by_cases e : i.toNat = j
      · subst e
        rw [if_pos rfl, if_pos (by omega), Int.toNat_of_nonneg h0]
      · rw [if_neg e]
        exact hx j (by omega))
    rw [List.length_set] at hy hy1
    refine ⟨y, Ev.step (fun k => rfl) ?_, hy1, hy2⟩
    simp only [laws_markStringS.l0]
    rw [wrap_in (x := 1 + i + 1) (by omega) (by omega), wrap_in (x := i + 1) (by omega) (by omega), show 1 + i + 1 = 1 + (i + 1) by omega]
    exact ev_pos (by omega) (Ev.bind (hm (1 + i) (by omega) (by omega)) (ev_pos h0 hy))
theorem held_l0 (mt : Int → ByteArray) (hm : ∀ n : Int, 0 ≤ n → n ≤ 10000000 → Ev (fun k => laws_markText.f k n) (mt n)) (y : List ByteArray) (hl : y.length ≤ 5000000) (hy : ∀ j : Nat, j < y.length → y[j]? = some (mt (1 + j))) (d : Nat) : ∀ (i : Int), 0 ≤ i → i + d = y.length →
    Ev (fun k => laws_heldStringS.l0 k y (1 + i) i) (1 + (y.length : Int)) := by
  induction d with
  | zero =>
    intro i h0 h1
    refine Ev.step (fun k => rfl) ?_
    simp only [laws_heldStringS.l0]
    exact ev_neg (by omega) (ev_val (by omega) (Ev.now _))
  | succ d ih =>
    intro i h0 h1
    have hi : i.toNat < y.length := by omega
    have e : rdOf ByteArray.empty y i = mt (1 + i) := by
      have h := hy i.toNat hi
      rw [List.getElem?_eq_getElem hi] at h
      rw [rs_at y i hi, Option.some.inj h, Int.toNat_of_nonneg h0]
    refine Ev.step (fun k => rfl) ?_
    simp only [laws_heldStringS.l0]
    rw [e, wrap_in (x := 1 + i + 1) (by omega) (by omega), wrap_in (x := i + 1) (by omega) (by omega), show 1 + i + 1 = 1 + (i + 1) by omega]
    exact ev_pos (by omega) (ev_pos h0 (Ev.bind (hm (1 + i) (by omega) (by omega)) (ev_pos rfl (ih (i + 1) (by omega) (by omega)))))
theorem SplitString_both (s a : ByteArray) (hs : s.size ≤ 1048576) : ∃ r : List ByteArray × Bool, Ev (fun k => spec_SplitString.f k s a) r ∧ Ev (fun k => impl_SplitString.f k s a) r ∧ r.1.length ≤ 4001 := by
  unfold spec_SplitString.f impl_SplitString.f
  by_cases ha : a.size = 1
  · obtain ⟨c, rfl⟩ := Lib.one_byte a ha
    have hb : bt ⟨#[c]⟩ 0 = (c.toNat : Int) := rfl
    by_cases q : (s.size : Int) > 4000
    · exact ⟨([], false), ev_pos (by omega) (ev_pos q (Ev.now _)), ev_pos q (Ev.now _), by simp⟩
    · have hp := pieces_len c s
      rw [hb]
      exact ⟨(pieces c s, true), ev_pos (by omega) (ev_neg q (ev_pos (by omega) (Ev.bind (spec_split s c (by omega)) (Ev.now _)))), ev_neg q (ev_pos (by omega) (Ev.bind (split_ev s c (by omega)) (Ev.now _))), by dsimp only; omega⟩
  · refine ⟨([], false), ev_neg (by omega) (Ev.now _), ?_, by simp⟩
    by_cases q : (s.size : Int) > 4000
    · exact ev_pos q (Ev.now _)
    · exact ev_neg q (ev_neg (by omega) (Ev.now _))
end Go.Proofs.YtehbjmcbpmoonaaDoor.Pure
