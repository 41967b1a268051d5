/- Plain facts on dyeing. -/
import Derived.Test.YtcdinmemjkeolaaDoorGx11
import Derived.Test.YtcdinmemjkeolaaDoorGx13
import Derived.Test.YtcdinmemjkeolaaDoorGx14
import Derived.Test.YtcdinmemjkeolaaDoorGx16
import Derived.Test.YtcdinmemjkeolaaDoorPReady
namespace Go.Proofs.YtcdinmemjkeolaaDoor.Pure
open Go.RowKit Go.Proofs.YtcdinmemjkeolaaDoor.G Go.Proofs.YtcdinmemjkeolaaDoorW.PrintWords Go.Proofs.YtcdinmemjkeolaaDoorW.PrintLast
set_option linter.unusedSimpArgs false
set_option linter.unusedVariables false

abbrev badA : Int × Int × Int × List Int × Bool := (0, 0, 0, ([] : List Int), false)
theorem clone_eq (s : List Int) (hs : s.length ≤ 1048576) : slices_Clone_int_int.f s = some s := by
  unfold slices_Clone_int_int.f
  simp only [Option.bind_some]
  rw [if_pos (by simp; omega)]
  rfl
/-- What is left of each stuff. -/
def leftL (s nd : List Int) (n : Nat) : List Int := (List.range n).map fun (j : Nat) => rd s (j : Int) - rd nd (j : Int)
theorem leftL_succ (s nd : List Int) (n : Nat) : leftL s nd (n + 1) = leftL s nd n ++ [rd s (n : Int) - rd nd (n : Int)] := by
  unfold leftL
  rw [List.range_succ, List.map_append]
  rfl
theorem leftL_len (s nd : List Int) (n : Nat) : (leftL s nd n).length = n := by simp [leftL]
theorem spec_dye (s nd : List Int) (x0 x1 x2 a b c : Int) (hl : nd.length = s.length) (hs : s.length ≤ 1048576) (hb : ∀ i : Int, 0 ≤ i → i < s.length → -1000000 ≤ rd s i - rd nd i ∧ rd s i - rd nd i ≤ 1000000) (d : Nat) : ∀ i : Nat, i + d = s.length →
    Ev (fun k => spec_DyeYarn.l0 k nd (i : Int) x0 x1 x2 s a b c (leftL s nd i)) (a, b, c, leftL s nd s.length, true) := by
  induction d with
  | zero =>
    intro i hi
    obtain rfl : i = s.length := by omega
    refine Ev.step (fun k => rfl) ?_
    simp only [spec_DyeYarn.l0]
    exact ev_neg (by omega) (Ev.now _)
  | succ d ih =>
    intro i hi
    have hn := ih (i + 1) (by omega)
    obtain ⟨b0, b1⟩ := hb (i : Int) (by omega) (by omega)
    rw [leftL_succ] at hn
    have hle := leftL_len s nd i
    refine Ev.step (fun k => rfl) ?_
    simp only [spec_DyeYarn.l0]
    rw [wrap_in (x := (i : Int) + 1) (by omega) (by omega), wrap_in (x := rd s (i : Int) - rd nd (i : Int)) (by omega) (by omega)]
    exact ev_pos (by omega) (ev_pos (by omega) (ev_pos (by omega) (ev_pos (by omega) hn)))
theorem impl_dye (s nd : List Int) (a b c : Int) (hl : nd.length = s.length) (hs : s.length ≤ 1048576) (hb : ∀ i : Int, 0 ≤ i → i < s.length → -1000000 ≤ rd s i - rd nd i ∧ rd s i - rd nd i ≤ 1000000) (d : Nat) : ∀ i : Nat, i + d = s.length →
    Ev (fun k => impl_DyeYarn.l0 k nd (nd.length : Int) (i : Int) a b c (leftL s nd i ++ s.drop i)) (a, b, c, leftL s nd s.length, true) := by
  induction d with
  | zero =>
    intro i hi
    obtain rfl : i = s.length := by omega
    refine Ev.step (fun k => rfl) ?_
    simp only [impl_DyeYarn.l0]
    exact ev_neg (by omega) (ev_val (by rw [List.drop_length, List.append_nil]) (Ev.now _))
  | succ d ih =>
    intro i hi
    have hn := ih (i + 1) (by omega)
    obtain ⟨b0, b1⟩ := hb (i : Int) (by omega) (by omega)
    have hle := leftL_len s nd i
    have hil : i < s.length := by omega
    have hdr : s.drop i = s[i] :: s.drop (i + 1) := List.drop_eq_getElem_cons hil
    have hlen : (leftL s nd i ++ s.drop i).length = s.length := by rw [List.length_append, hle, List.length_drop]; omega
    have hrd : rd (leftL s nd i ++ s.drop i) (i : Int) = rd s (i : Int) := by
      rw [rd_at _ (i : Int) (by rw [Int.toNat_natCast, hlen]; exact hil), rd_at s (i : Int) (by rw [Int.toNat_natCast]; exact hil)]
      simp only [Int.toNat_natCast]
      rw [List.getElem_append_right (by omega)]
      simp only [hle, Nat.sub_self, List.getElem_drop, Nat.add_zero]
    have hset : (leftL s nd i ++ s.drop i).set i (rd s (i : Int) - rd nd (i : Int)) = leftL s nd (i + 1) ++ s.drop (i + 1) := by
      rw [List.set_append_right _ _ (by omega), hle, Nat.sub_self, hdr, List.set_cons_zero, leftL_succ, List.append_assoc]
      rfl
    refine Ev.step (fun k => rfl) ?_
    simp only [impl_DyeYarn.l0]
    rw [hrd, hlen, wrap_in (x := (i : Int) + 1) (by omega) (by omega), wrap_in (x := rd s (i : Int) - rd nd (i : Int)) (by omega) (by omega), Int.toNat_natCast, hset]
    exact ev_pos (by omega) (ev_pos (by omega) (ev_pos (by omega) (ev_pos (by omega) hn)))
theorem DyeYarn_both (l : List S48) (hl : l.length ≤ 1048576) (hx : ∀ x ∈ l, x.f0.size ≤ 9223372036854775807) (a b c : Int) (s : List Int) (hs : s.length ≤ 1048576) :
    ∃ r : Int × Int × Int × List Int × Bool, Ev (fun k => spec_DyeYarn.f k l a b c s) r ∧ Ev (fun k => impl_DyeYarn.f k l a b c s) r ∧ r.2.2.2.1.length ≤ 1048576 := by
  have hS := l7Bath_ev l hl hx a b c s hs
  have hI := IsBath_ev l hl a b c s
  have hj : Ev (fun k => spec_DyeYarn.j0 k l true a b c s) badA := by
    refine Ev.step (fun k => rfl) ?_
    simp only [spec_DyeYarn.j0]
    exact ev_pos trivial (Ev.now _)
  have hk : Ev (fun k => impl_DyeYarn.j0 k l true a b c s) badA := by
    refine Ev.step (fun k => rfl) ?_
    simp only [impl_DyeYarn.j0]
    exact ev_pos trivial (Ev.now _)
  unfold spec_DyeYarn.f impl_DyeYarn.f impl_Bath_isReady.f
  cases h : bathB l a b c s with
  | false => exact ⟨badA, Ev.bind (ev_val h hS) (ev_neg (by simp) hj), Ev.bind (ev_val h hI) (ev_neg (by simp) hk), by simp⟩
  | true =>
    obtain ⟨hr, a1, a2, b1, b2, c1, c2, hlen, hsb⟩ := bath_parts h
    obtain ⟨M, e1, e2, e3, e4⟩ := most_ev h
    have hready : Ev (fun k => (impl_Bath_isWarm.f a b c s).bind fun t323 => (if t323 = true then ((impl_Bath_mostYarn.f k a b c s l).bind fun t324 => (some (decide (c ≤ t324)))) else (some false))) (readyS l a b s c) := by
      rw [e4 c c1 c2, warm_eq]
      refine Ev.bind (Ev.now _) ?_
      cases warmB b with
      | false => exact ev_neg (by simp) (ev_val (by simp) (Ev.now false))
      | true => exact ev_pos rfl (Ev.bind e1 (ev_val (by simp) (Ev.now _)))
    cases hy : readyS l a b s c with
    | false => exact ⟨badA, Ev.bind (ev_val h hS) (ev_pos rfl (Ev.bind (ev_val hy (ready_ev h c c1 c2)) hj)), Ev.bind (ev_val h hI) (ev_pos rfl (Ev.bind (ev_val hy hready) hk)), by simp⟩
    | true =>
      obtain ⟨_, _, r3, _⟩ := rec_parts hr
      have hnl : (needsL l c).length = s.length := by rw [needsL_length]; omega
      have hb : ∀ i : Int, 0 ≤ i → i < s.length → -1000000 ≤ rd s i - rd (needsL l c) i ∧ rd s i - rd (needsL l c) i ≤ 1000000 := by
        intro i i0 i1
        obtain ⟨s0, s1⟩ := hsb i i0 i1
        obtain ⟨p0, p1⟩ := r3 i i0 (by omega)
        have hp := prod_in p0 p1 c1 c2
        rw [needsL_rd l c i i0 (by omega)]
        omega
      have h1 := spec_dye s (needsL l c) a b c a b 0 hnl hs hb s.length 0 (by omega)
      have h2 := impl_dye s (needsL l c) a b 0 hnl hs hb s.length 0 (by omega)
      have h1' : Ev (fun k => spec_DyeYarn.j0 k l (!true) a b c s) (a, b, 0, leftL s (needsL l c) s.length, true) := by
        refine Ev.step (fun k => rfl) ?_
        simp only [spec_DyeYarn.j0]
        exact ev_neg (by simp) (Ev.bind (l7Needs_ev hr c c1 c2) h1)
      have h2' : Ev (fun k => impl_DyeYarn.j0 k l (!true) a b c s) (a, b, 0, leftL s (needsL l c) s.length, true) := by
        refine Ev.step (fun k => rfl) ?_
        simp only [impl_DyeYarn.j0]
        rw [clone_eq s hs]
        exact ev_neg (by simp) (Ev.bind (Ev.now _) (Ev.bind (needs_ev hr c c1 c2) h2))
      exact ⟨_, Ev.bind (ev_val h hS) (ev_pos rfl (Ev.bind (ev_val hy (ready_ev h c c1 c2)) h1')), Ev.bind (ev_val h hI) (ev_pos rfl (Ev.bind (ev_val hy hready) h2')), by dsimp only; rw [leftL_len]; exact hs⟩
end Go.Proofs.YtcdinmemjkeolaaDoor.Pure
