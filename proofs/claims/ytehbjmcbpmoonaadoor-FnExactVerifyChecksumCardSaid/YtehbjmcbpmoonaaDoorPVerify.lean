/- Plain facts on sealed strings. -/
import Derived.Test.YtehbjmcbpmoonaaDoorGx1
import Derived.Test.YtehbjmcbpmoonaaDoorGx2
import Derived.Test.YtehbjmcbpmoonaaDoorGx3
import Derived.Test.YtehbjmcbpmoonaaDoorPCut
namespace Go.Proofs.YtehbjmcbpmoonaaDoor.Pure
open Go.RowKit Go.Proofs.YtehbjmcbpmoonaaDoor.G Go.Proofs.YtehbjmcbpmoonaaDoorW.PrintWords Go.Proofs.YtehbjmcbpmoonaaDoorW.PrintLast
set_option linter.unusedSimpArgs false
set_option linter.unusedVariables false

abbrev bad : ByteArray × Bool := ((⟨#[]⟩ : ByteArray), false)
theorem append_val (t : ByteArray) (ht : t.size ≤ 1048576) (hst : stands 35 t = false) : ∃ r : Int, Ev (fun k => spec_l1Seal.f k t) (sealT t r) ∧
    Ev (fun k => impl_AppendChecksum.f k t) (if (t.size : Int) > 4000 then bad else if ((sealT t r).size : Int) > 4000 then bad else (sealT t r, true)) := by
  obtain ⟨r, r1, r2, r3, r4⟩ := sum_both t ht t.size 7 0 (by omega) (by omega) (by omega) (by omega)
  have hseal := seal_ev t ht r r1 r3 r4
  have ok : ∀ x : Int, 0 ≤ x → x < 999979 → (t ++ (⟨#[35]⟩ : ByteArray)).size + (numT (Lib.itoa x)).size ≤ 9223372036854775807 := by
    intro x x0 x1
    have := itoa_size x x0 x1
    rw [ByteArray.size_append, sign_size]
    omega
  refine ⟨r, hseal, ?_⟩
  unfold impl_AppendChecksum.f impl_Checksum.f
  simp only [contains_eq, Option.bind_some, hst]
  by_cases c : (t.size : Int) > 4000
  · rw [if_pos c]
    refine Ev.bind (ev_eq fun _ => if_pos c) (ev_pos (by omega) ?_)
    dsimp only
    rw [decimal_eq 0 (by omega) (by omega)]
    simp only [Option.bind_some]
    exact ev_pos (ok 0 (by omega) (by omega)) (ev_neg (by simp) (Ev.now _))
  · have h2 : Ev (fun k => if (t.size : Int) > 4000 then some ((0 : Int), false) else impl_Checksum.l0 k t 7 (t.size : Int) 0) (r, true) := ev_neg c r2
    rw [if_neg c]
    refine Ev.bind h2 (ev_pos (by omega) ?_)
    dsimp only
    rw [decimal_eq r (by omega) (by omega)]
    simp only [Option.bind_some]
    refine ev_pos (ok r r3 r4) (ev_pos (by trivial) (ev_neg (by simp) ?_))
    by_cases q : ((sealT t r).size : Int) > 4000
    · rw [if_pos q]
      exact ev_pos q (Ev.now _)
    · rw [if_neg q]
      exact ev_neg q (Ev.now _)
theorem size_of_list {a b : ByteArray} (h : a.toList = b.toList) : a.size = b.size := by
  have h1 : a.data.toList = b.data.toList := by rw [← Lib.toList_data, ← Lib.toList_data, h]
  have h2 : a.data.toList.length = b.data.toList.length := by rw [h1]
  exact h2
theorem VerifyChecksum_both (s : ByteArray) (hs : s.size ≤ 1048576) : ∃ r : ByteArray × Bool, Ev (fun k => spec_VerifyChecksum.f k s) r ∧ Ev (fun k => impl_VerifyChecksum.f k s) r := by
  obtain ⟨b, x, hcut⟩ := cut_eq s hs
  obtain ⟨tl, hsplit⟩ := split_head s 35 hs s.size 0 (by omega) (by omega)
  have hsp : Ev (fun k => spec_l1Split.f k s 35) (headT s 35 0 :: tl) := hsplit
  have hle := headT_size s 35
  have hno := no_sign s 35
  generalize headT s 35 0 = t at *
  obtain ⟨r, e1, e2⟩ := append_val t (by omega) hno
  have hr0 : rdOf ByteArray.empty (t :: tl) 0 = t := rfl
  unfold spec_VerifyChecksum.f impl_VerifyChecksum.f
  rw [hcut]
  simp only [Option.bind_some]
  by_cases c : (s.size : Int) > 4000
  · refine ⟨bad, ev_pos c (Ev.now _), Ev.bind e2 ?_⟩
    by_cases c2 : (t.size : Int) > 4000
    · rw [if_pos c2]
      exact ev_neg (by simp) (Ev.now _)
    · rw [if_neg c2]
      by_cases q : ((sealT t r).size : Int) > 4000
      · rw [if_pos q]
        exact ev_neg (by simp) (Ev.now _)
      · rw [if_neg q]
        exact ev_pos (by trivial) (ev_neg (fun h => by have := size_of_list h; dsimp only at this; omega) (Ev.now _))
  · rw [if_neg (by omega : ¬ (t.size : Int) > 4000)] at e2
    by_cases z : (sealT t r).toList = s.toList
    · have hz := size_of_list z
      rw [if_neg (by omega)] at e2
      refine ⟨(t, true), ev_neg c (Ev.bind hsp (ev_pos (by simp) ?_)), Ev.bind e2 (ev_pos (by trivial) (ev_pos z (Ev.now _)))⟩
      rw [hr0]
      exact Ev.bind e1 (ev_pos z (Ev.now _))
    · refine ⟨bad, ev_neg c (Ev.bind hsp (ev_pos (by simp) ?_)), Ev.bind e2 ?_⟩
      · rw [hr0]
        exact Ev.bind e1 (ev_neg z (Ev.now _))
      · by_cases q : ((sealT t r).size : Int) > 4000
        · rw [if_pos q]
          exact ev_neg (by simp) (Ev.now _)
        · rw [if_neg q]
          exact ev_pos (by trivial) (ev_neg z (Ev.now _))
end Go.Proofs.YtehbjmcbpmoonaaDoor.Pure
