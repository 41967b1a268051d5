/- Plain facts on stuff that is added to a bath. -/
import Derived.Test.YtcdinmemjkeolaaDoorGx10
import Derived.Test.YtcdinmemjkeolaaDoorGx5
import Derived.Test.YtcdinmemjkeolaaDoorGx6
import Derived.Test.YtcdinmemjkeolaaDoorGx7
import Derived.Test.YtcdinmemjkeolaaDoorGx8
import Derived.Test.YtcdinmemjkeolaaDoorGx9
import Derived.Test.YtcdinmemjkeolaaDoorPBath
namespace Go.Proofs.YtcdinmemjkeolaaDoor.Pure
open Go.RowKit Go.Proofs.YtcdinmemjkeolaaDoor.G Go.Proofs.YtcdinmemjkeolaaDoorW.PrintWords Go.Proofs.YtcdinmemjkeolaaDoorW.PrintLast
set_option linter.unusedSimpArgs false
set_option linter.unusedVariables false

theorem bl_irrefl : ∀ x : List UInt8, Op.bytesLess x x = false
  | [] => rfl
  | a :: x => by
    rw [Op.bytesLess, bl_irrefl x]
    simp
theorem bl_trans : ∀ x y z : List UInt8, Op.bytesLess x y = true → Op.bytesLess y z = true → Op.bytesLess x z = true
  | x, [], _, h, _ => by cases x <;> simp [Op.bytesLess] at h
  | _, _ :: _, [], _, h => by simp [Op.bytesLess] at h
  | [], _ :: _, _ :: _, _, _ => rfl
  | a :: x, b :: y, c :: z, h1, h2 => by
    rw [Op.bytesLess] at h1 h2 ⊢
    simp only [Bool.or_eq_true, Bool.and_eq_true, decide_eq_true_eq, beq_iff_eq] at h1 h2 ⊢
    rcases h1 with h1 | ⟨rfl, h1⟩
    · rcases h2 with h2 | ⟨rfl, h2⟩
      · left
        rw [UInt8.lt_iff_toNat_lt] at *
        omega
      · exact Or.inl h1
    · rcases h2 with h2 | ⟨rfl, h2⟩
      · exact Or.inl h2
      · exact Or.inr ⟨rfl, bl_trans x y z h1 h2⟩
theorem rising {l : List S48} (h : recB l = true) (i : Nat) (d : Nat) : ∀ j : Nat, j = i + 1 + d → j < l.length → Op.bytesLess ((rd_T48 l (i : Int)).f0.toList) ((rd_T48 l (j : Int)).f0.toList) = true := by
  obtain ⟨_, _, _, h4⟩ := rec_parts h
  induction d with
  | zero =>
    intro j hj hl
    have := h4 j (by omega) hl
    unfold ltAt at this
    rw [show (j : Int) - 1 = (i : Int) by omega] at this
    exact this
  | succ d ih =>
    intro j hj hl
    have h1 := ih (j - 1) (by omega) (by omega)
    have h2 := h4 j (by omega) hl
    unfold ltAt at h2
    rw [show (j : Int) - 1 = ((j - 1 : Nat) : Int) by omega] at h2
    exact bl_trans _ _ _ h1 h2
def isStuff (t : ByteArray) (x : S48) : Bool := x.f0.toList == t.toList
theorem one_place {l : List S48} (h : recB l = true) (t : ByteArray) (i j : Nat) (hi : i < l.length) (hj : j < l.length) (h1 : isStuff t (rd_T48 l (i : Int)) = true) (h2 : isStuff t (rd_T48 l (j : Int)) = true) : i = j := by
  unfold isStuff at h1 h2
  rw [beq_iff_eq] at h1 h2
  rcases Nat.lt_trichotomy i j with c | c | c
  · have := rising h i (j - i - 1) j (by omega) hj
    rw [h1, h2, bl_irrefl] at this
    cases this
  · exact c
  · have := rising h j (i - j - 1) i (by omega) hi
    rw [h1, h2, bl_irrefl] at this
    cases this
abbrev badA : Int × Int × Int × List Int × Bool := (0, 0, 0, ([] : List Int), false)
/-- What the reference answers behind its loop. -/
def endA (l : List S48) (a b c : Int) (found : Bool) (s : List Int) : Int × Int × Int × List Int × Bool := if found = true then (if bathB l a b c s = true then (a, b, c, s, true) else badA) else badA
theorem add_rest (l : List S48) (hl : l.length ≤ 1048576) (hx : ∀ x ∈ l, x.f0.size ≤ 9223372036854775807) (t : ByteArray) (g a b c : Int) (s : List Int) (hs : s.length ≤ 1048576) (found : Bool) (d : Nat) : ∀ i : Nat, i + d = l.length → (∀ j : Nat, i ≤ j → j < l.length → isStuff t (rd_T48 l (j : Int)) = false) →
    Ev (fun k => spec_AddStuff.l0 k l t g found (i : Int) a b c s) (endA l a b c found s) := by
  induction d with
  | zero =>
    intro i hi hn
    refine Ev.step (fun k => rfl) ?_
    simp only [spec_AddStuff.l0]
    refine ev_neg (by omega) ?_
    unfold endA
    cases found with
    | false => exact ev_neg (by simp) (Ev.now _)
    | true =>
      refine ev_pos rfl (Ev.bind (l7Bath_ev l hl hx a b c s hs) ?_)
      cases bathB l a b c s with
      | false => exact ev_neg (by simp) (Ev.now _)
      | true => exact ev_pos rfl (Ev.now _)
  | succ d ih =>
    intro i hi hn
    have h0 := hn i (Nat.le_refl _) (by omega)
    unfold isStuff at h0
    have h1 : ¬ ((rd_T48 l (i : Int)).f0.toList = t.toList) := by simpa using h0
    refine Ev.step (fun k => rfl) ?_
    simp only [spec_AddStuff.l0]
    rw [wrap_in (x := (i : Int) + 1) (by omega) (by omega)]
    exact ev_pos (by omega) (ev_pos (by omega) (ev_neg h1 (ih (i + 1) (by omega) (fun j j0 j1 => hn j (by omega) j1))))
theorem add_till (l : List S48) (hl : l.length ≤ 1048576) (t : ByteArray) (g a b c : Int) (s : List Int) (p : Nat) (hp : p < l.length) (hno : ∀ j : Nat, j < p → isStuff t (rd_T48 l (j : Int)) = false) (r : Int × Int × Int × List Int × Bool) (hr : Ev (fun k => spec_AddStuff.l0 k l t g false (p : Int) a b c s) r) (d : Nat) : ∀ i : Nat, i + d = p →
    Ev (fun k => spec_AddStuff.l0 k l t g false (i : Int) a b c s) r := by
  induction d with
  | zero =>
    intro i hi
    obtain rfl : i = p := by omega
    exact hr
  | succ d ih =>
    intro i hi
    have h0 := hno i (by omega)
    unfold isStuff at h0
    have h1 : ¬ ((rd_T48 l (i : Int)).f0.toList = t.toList) := by simpa using h0
    refine Ev.step (fun k => rfl) ?_
    simp only [spec_AddStuff.l0]
    rw [wrap_in (x := (i : Int) + 1) (by omega) (by omega)]
    exact ev_pos (by omega) (ev_pos (by omega) (ev_neg h1 (ih (i + 1) (by omega))))
theorem bath_set {l : List S48} {a b c : Int} {s : List Int} (h : bathB l a b c s = true) (p : Nat) (hp : p < s.length) (v : Int) (v0 : 0 ≤ v) : bathB l a b c (s.set p v) = decide (v ≤ 50000) := by
  unfold bathB at h ⊢
  simp only [Bool.and_eq_true] at h
  obtain ⟨h1, h2, h3, h4, h5, h6⟩ := h
  have e : (s.set p v).all gramsB = decide (v ≤ 50000) := by
    have hv : gramsB v = decide (v ≤ 50000) := by
      unfold gramsB
      rw [decide_eq_true v0, Bool.true_and]
    apply bool_iff
    rw [← hv, List.all_eq_true]
    constructor
    · intro f
      exact f v (List.mem_set hp v)
    · intro hg x hx
      rcases List.mem_or_eq_of_mem_set hx with hx | rfl
      · exact (List.all_eq_true.mp h6) x hx
      · exact hg
  rw [h1, h2.1, h2.2, h3.1, h3.2, h4, List.length_set, h5, e]
  rfl
theorem clone_eq (s : List Int) (hs : s.length ≤ 1048576) : slices_Clone_int_int.f s = some s := by
  unfold slices_Clone_int_int.f
  simp only [Option.bind_some]
  rw [if_pos (by simp; omega)]
  rfl
theorem own_eq (s : List Int) (hs : s.length ≤ 1048576) : spec_l1Own.f s = some s := by
  unfold spec_l1Own.f
  simp only [Option.bind_some]
  rw [if_pos (by simp; omega)]
  rfl
theorem AddStuff_both (l : List S48) (hl : l.length ≤ 1048576) (hx : ∀ x ∈ l, x.f0.size ≤ 9223372036854775807) (a b c : Int) (s : List Int) (hs : s.length ≤ 1048576) (t : ByteArray) (g : Int) :
    ∃ r : Int × Int × Int × List Int × Bool, Ev (fun k => spec_AddStuff.f k l a b c s t g) r ∧ Ev (fun k => impl_AddStuff.f k l a b c s t g) r ∧ r.2.2.2.1.length ≤ 1048576 := by
  have hS := l7Bath_ev l hl hx a b c s hs
  have hI := IsBath_ev l hl a b c s
  have hj : Ev (fun k => spec_AddStuff.j0 k l t g true a b c s) badA := by
    refine Ev.step (fun k => rfl) ?_
    simp only [spec_AddStuff.j0]
    exact ev_pos trivial (Ev.now _)
  have hf : impl_findStuff.f l t = some (idxIDyePart (isStuff t) l) := rfl
  unfold spec_AddStuff.f impl_AddStuff.f
  rw [hf, grams_spec, grams_impl]
  cases hb : bathB l a b c s with
  | false => exact ⟨badA, Ev.bind (ev_val hb hS) (ev_neg (by simp) hj), Ev.bind (Ev.now _) (Ev.bind (ev_val hb hI) (ev_neg (by simp) (Ev.now _))), by simp⟩
  | true =>
    obtain ⟨hrec, _, _, _, _, _, _, hlen, hsb⟩ := bath_parts hb
    have hS' := ev_val hb hS
    have hI' := ev_val hb hI
    by_cases hm : ∃ p : Nat, p < l.length ∧ isStuff t (rd_T48 l (p : Int)) = true
    · obtain ⟨p, hp, hq⟩ := hm
      have hno : ∀ j : Nat, j < l.length → j ≠ p → isStuff t (rd_T48 l (j : Int)) = false := by
        intro j hj hne
        cases e : isStuff t (rd_T48 l (j : Int)) with
        | false => rfl
        | true => exact absurd (one_place hrec t j p hj hp e hq) hne
      have hidx : idxIDyePart (isStuff t) l = (p : Int) := idxIDyePart_hit (isStuff t) l p hp (fun j hj => hno j (by omega) (by omega)) hq
      rw [hidx]
      cases hg : gramsB g with
      | false =>
        have hj2 : Ev (fun k => spec_AddStuff.j0 k l t g (!false) a b c s) badA := hj
        exact ⟨badA, Ev.bind hS' (ev_pos rfl (Ev.bind (Ev.now _) hj2)), Ev.bind (Ev.now _) (Ev.bind hI' (ev_pos rfl (ev_neg (by omega) (Ev.bind (Ev.now _) (ev_neg (by simp) (Ev.now _)))))), by simp⟩
      | true =>
        obtain ⟨g0, g1⟩ := grams_parts hg
        obtain ⟨s0, s1⟩ := hsb (p : Int) (by omega) (by omega)
        have hq2 : (rd_T48 l (p : Int)).f0.toList = t.toList := by unfold isStuff at hq; exact beq_iff_eq.mp hq
        have hset := bath_set hb p (by omega) (rd s (p : Int) + g) (by omega)
        have hrest := add_rest l hl hx t g a b c (s.set p (rd s (p : Int) + g)) (by rw [List.length_set]; exact hs) true (l.length - (p + 1)) (p + 1) (by omega) (fun j j0 j1 => hno j j1 (by omega))
        have hat : Ev (fun k => spec_AddStuff.l0 k l t g false (p : Int) a b c s) (endA l a b c true (s.set p (rd s (p : Int) + g))) := by
          refine Ev.step (fun k => rfl) ?_
          simp only [spec_AddStuff.l0]
          rw [wrap_in (x := (p : Int) + 1) (by omega) (by omega), wrap_in (x := rd s (p : Int) + g) (by omega) (by omega), Int.toNat_natCast]
          exact ev_pos (by omega) (ev_pos (by omega) (ev_pos hq2 (ev_pos (by omega) hrest)))
        have h0 := add_till l hl t g a b c s p hp (fun j hj => hno j (by omega) (by omega)) _ hat p 0 (by omega)
        have hj2 : Ev (fun k => spec_AddStuff.j0 k l t g (!true) a b c s) (endA l a b c true (s.set p (rd s (p : Int) + g))) := by
          refine Ev.step (fun k => rfl) ?_
          simp only [spec_AddStuff.j0]
          rw [own_eq s hs]
          exact ev_neg (by simp) (Ev.bind (Ev.now _) h0)
        refine ⟨endA l a b c true (s.set p (rd s (p : Int) + g)), Ev.bind hS' (ev_pos rfl (Ev.bind (Ev.now _) hj2)), Ev.bind (Ev.now _) (Ev.bind hI' (ev_pos rfl (ev_neg (by omega) (Ev.bind (Ev.now _) (ev_pos rfl (ev_pos (by omega) (ev_pos (by omega) ?_))))))), ?_⟩
        · rw [wrap_in (x := rd s (p : Int) + g) (by omega) (by omega), clone_eq s hs]
          unfold endA
          rw [if_pos rfl, hset]
          by_cases q : rd s (p : Int) + g > 50000
          · rw [decide_eq_false (by omega)]
            exact ev_pos q (ev_val (by simp) (Ev.now _))
          · rw [decide_eq_true (by omega)]
            refine ev_neg q (Ev.bind (Ev.now _) (ev_pos (by omega) ?_))
            rw [Int.toNat_natCast, wrap_in (x := rd s (p : Int) + g) (by omega) (by omega)]
            exact ev_val (by simp) (Ev.now _)
        · unfold endA
          rw [if_pos rfl]
          split
          · dsimp only
            rw [List.length_set]
            exact hs
          · simp
    · have hno : ∀ j : Nat, j < l.length → isStuff t (rd_T48 l (j : Int)) = false := by
        intro j hj
        cases e : isStuff t (rd_T48 l (j : Int)) with
        | false => rfl
        | true => exact absurd ⟨j, hj, e⟩ hm
      have hidx : idxIDyePart (isStuff t) l = -1 := idxIDyePart_miss (isStuff t) l hno
      rw [hidx]
      refine ⟨badA, Ev.bind hS' (ev_pos rfl (Ev.bind (Ev.now _) ?_)), Ev.bind (Ev.now _) (Ev.bind hI' (ev_pos rfl (ev_pos (by omega) (Ev.now _)))), by simp⟩
      cases gramsB g with
      | false => exact hj
      | true =>
        have h0 := add_rest l hl hx t g a b c s hs false l.length 0 (by omega) (fun j _ j1 => hno j j1)
        refine Ev.step (fun k => rfl) ?_
        simp only [spec_AddStuff.j0]
        rw [own_eq s hs]
        exact ev_neg (by simp) (Ev.bind (Ev.now _) h0)
end Go.Proofs.YtcdinmemjkeolaaDoor.Pure
