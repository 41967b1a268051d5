/- What the program's and the reference's ParseShade come to. -/
import Derived.Test.YthcgeejoocpbmaaDoorGx1
import Derived.Test.YthcgeejoocpbmaaDoorGx11
import Derived.Test.YthcgeejoocpbmaaDoorGx12
import Derived.Test.YthcgeejoocpbmaaDoorGx3
import Derived.Test.YthcgeejoocpbmaaDoorGx8
import Derived.Test.YthcgeejoocpbmaaDoorGx9
import Derived.Test.YthcgeejoocpbmaaDoorPText
namespace Go.Proofs.YthcgeejoocpbmaaDoor.Pure
open Go.RowKit Go.Proofs.YthcgeejoocpbmaaDoor.G Go.Proofs.YthcgeejoocpbmaaDoorW.PrintWords Go.Proofs.YthcgeejoocpbmaaDoorW.PrintLast
set_option linter.unusedSimpArgs false
set_option linter.unusedVariables false

theorem l3Text_ev {a : Int} {n : ByteArray} {b c d : Int} (g : Good a n b c d) : Ev (fun k => spec_l3Text.f k a n b c d) (textB a n b c d) := by
  have ea := l1Num_all a (by have := g.a0; omega) (by have := g.a1; omega)
  have eb := l1Num_all b (by have := g.b0; omega) (by have := g.b1; omega)
  have ec := l1Num_all c (by have := g.c0; omega) (by have := g.c1; omega)
  have ed := l1Num_all d (by have := g.d0; omega) (by have := g.d1; omega)
  have sa := (itoa_len a (by have := g.a0; omega) (by have := g.a1; omega)).2
  have sb := (itoa_len b g.b0 (by have := g.b1; omega)).2
  have sc := (itoa_len c g.c0 (by have := g.c1; omega)).2
  have sd := (itoa_len d (by have := g.d0; omega) (by have := g.d1; omega)).2
  have sn := (word_letters n g.w).2
  rw [← numT_size] at sa sb sc sd
  have z1 : (⟨#[32]⟩ : ByteArray).size = 1 := rfl
  have z2 : (⟨#[32, 97, 116, 32]⟩ : ByteArray).size = 4 := rfl
  have z3 : (⟨#[44, 32, 100, 101, 112, 116, 104, 32]⟩ : ByteArray).size = 8 := rfl
  have z4 : (⟨#[44, 32, 102, 97, 115, 116, 32]⟩ : ByteArray).size = 7 := rfl
  have ok : ∀ {x : Nat} {α : Type} {f g : Nat → Option α} {r : α}, x ≤ 100 → Ev f r → Ev (fun k => if x ≤ 9223372036854775807 then f k else g k) r := fun hx h => ev_pos (by omega) h
  unfold spec_l3Text.f textB
  generalize numT (Lib.itoa a) = ta at *
  generalize numT (Lib.itoa b) = tb at *
  generalize numT (Lib.itoa c) = tc at *
  generalize numT (Lib.itoa d) = td at *
  exact Ev.bind ea (ok (by (try simp only [ByteArray.size_append, z1, z2, z3, z4]); omega) (ok (by (try simp only [ByteArray.size_append, z1, z2, z3, z4]); omega) (ok (by (try simp only [ByteArray.size_append, z1, z2, z3, z4]); omega) (Ev.bind eb (ok (by (try simp only [ByteArray.size_append, z1, z2, z3, z4]); omega) (ok (by (try simp only [ByteArray.size_append, z1, z2, z3, z4]); omega) (Ev.bind ec (ok (by (try simp only [ByteArray.size_append, z1, z2, z3, z4]); omega) (ok (by (try simp only [ByteArray.size_append, z1, z2, z3, z4]); omega) (Ev.bind ed (ok (by (try simp only [ByteArray.size_append, z1, z2, z3, z4]); omega) (Ev.now _))))))))))))
theorem dec_eq (x : Int) (h0 : 0 ≤ x) (h1 : x < 100) : impl_decimal.f x = some (numT (Lib.itoa x)) := by
  unfold impl_decimal.f
  rw [if_pos ⟨by omega, by omega⟩]
  rfl
theorem ShadeText_eq (a : Int) (n : ByteArray) (b c d : Int) : Ev (fun _ => impl_ShadeText.f a n b c d) (if shadeB a n b c d = true then (textB a n b c d, true) else (⟨#[]⟩, false)) := by
  unfold impl_ShadeText.f
  rw [IsShade_eq]
  cases hb : shadeB a n b c d with
  | false => exact Ev.bind (Ev.now _) (ev_neg (by simp) (Ev.now _))
  | true =>
    have g := good_of hb
    rw [if_pos rfl]
    have sa := (itoa_len a (by have := g.a0; omega) (by have := g.a1; omega)).2
    have sb := (itoa_len b g.b0 (by have := g.b1; omega)).2
    have sc := (itoa_len c g.c0 (by have := g.c1; omega)).2
    have sd := (itoa_len d (by have := g.d0; omega) (by have := g.d1; omega)).2
    have sn := (word_letters n g.w).2
    rw [← numT_size] at sa sb sc sd
    have z1 : (⟨#[32]⟩ : ByteArray).size = 1 := rfl
    have z2 : (⟨#[32, 97, 116, 32]⟩ : ByteArray).size = 4 := rfl
    have z3 : (⟨#[44, 32, 100, 101, 112, 116, 104, 32]⟩ : ByteArray).size = 8 := rfl
    have z4 : (⟨#[44, 32, 102, 97, 115, 116, 32]⟩ : ByteArray).size = 7 := rfl
    have ok : ∀ {x : Nat} {α : Type} {f g : Nat → Option α} {r : α}, x ≤ 100 → Ev f r → Ev (fun k => if x ≤ 9223372036854775807 then f k else g k) r := fun hx h => ev_pos (by omega) h
    rw [dec_eq a (by have := g.a0; omega) (by have := g.a1; omega), dec_eq b g.b0 (by have := g.b1; omega), dec_eq c g.c0 (by have := g.c1; omega), dec_eq d (by have := g.d0; omega) (by have := g.d1; omega)]
    unfold textB
    generalize numT (Lib.itoa a) = ta at *
    generalize numT (Lib.itoa b) = tb at *
    generalize numT (Lib.itoa c) = tc at *
    generalize numT (Lib.itoa d) = td at *
    exact Ev.bind (Ev.now _) (ev_pos rfl (Ev.bind (Ev.now _) (ok (by (try simp only [ByteArray.size_append, z1, z2, z3, z4]); omega) (ok (by (try simp only [ByteArray.size_append, z1, z2, z3, z4]); omega) (ok (by (try simp only [ByteArray.size_append, z1, z2, z3, z4]); omega) (Ev.bind (Ev.now _) (ok (by (try simp only [ByteArray.size_append, z1, z2, z3, z4]); omega) (ok (by (try simp only [ByteArray.size_append, z1, z2, z3, z4]); omega) (Ev.bind (Ev.now _) (ok (by (try simp only [ByteArray.size_append, z1, z2, z3, z4]); omega) (ok (by (try simp only [ByteArray.size_append, z1, z2, z3, z4]); omega) (Ev.bind (Ev.now _) (ok (by (try simp only [ByteArray.size_append, z1, z2, z3, z4]); omega) (Ev.now _))))))))))))))
theorem cut_size (w : ByteArray) : (cutL w).size ≤ w.size := by
  rw [← len_size, ← len_size]
  unfold cutL
  rw [ext_list]
  simp only [List.drop_zero, List.length_take]
  omega
theorem specEv (s : ByteArray) (hs : s.size ≤ 1048576) : Ev (fun k => spec_ParseShade.f k s) (specV s) := by
  have hsp := spec_split s 32 (by omega)
  rw [show (((32 : UInt8).toNat : Nat) : Int) = 32 from rfl] at hsp
  have hps := fun i => piece_size 32 s i
  have hjT : Ev (fun k => spec_ParseShade.j0 k s (pieces 32 s) true) Z := by
    refine Ev.step (fun k => rfl) ?_
    simp only [spec_ParseShade.j0]
    exact ev_pos trivial (Ev.now _)
  unfold spec_ParseShade.f specV
  refine Ev.bind hsp ?_
  generalize pieces 32 s = ws at *
  by_cases q : 50 < s.size
  · rw [if_pos q]
    exact ev_pos (by omega) hjT
  · rw [if_neg q]
    refine ev_neg (by omega) ?_
    by_cases q8 : ws.length = 8
    · rw [if_pos q8]
      refine ev_pos (by omega) (ev_pos (by omega) ?_)
      by_cases q3 : (rdOf ByteArray.empty ws 3).size < 2
      · rw [if_pos q3]
        exact ev_pos (by omega) hjT
      · rw [if_neg q3]
        refine ev_neg (by omega) (ev_pos (by omega) ?_)
        by_cases q5 : (rdOf ByteArray.empty ws 5).size < 2
        · rw [if_pos q5, decide_eq_true (show ((rdOf ByteArray.empty ws 5).size : Int) < 2 by omega)]
          exact hjT
        · rw [if_neg q5, decide_eq_false (show ¬ ((rdOf ByteArray.empty ws 5).size : Int) < 2 by omega)]
          have h0 := read_ev (rdOf ByteArray.empty ws 0) (by have := hps 0; omega)
          have h3 := read_ev (cutL (rdOf ByteArray.empty ws 3)) (by have := hps 3; have := cut_size (rdOf ByteArray.empty ws 3); omega)
          have h5 := read_ev (cutL (rdOf ByteArray.empty ws 5)) (by have := hps 5; have := cut_size (rdOf ByteArray.empty ws 5); omega)
          have h7 := read_ev (rdOf ByteArray.empty ws 7) (by have := hps 7; omega)
          have b3 := hps 3
          have b5 := hps 5
          have b1 := hps 1
          unfold cutL at h3 h5 ⊢
          refine Ev.step (fun k => rfl) ?_
          simp only [spec_ParseShade.j0]
          rw [wrap_in (x := ((rdOf ByteArray.empty ws 3).size : Int) - 1) (by omega) (by omega), wrap_in (x := ((rdOf ByteArray.empty ws 5).size : Int) - 1) (by omega) (by omega)]
          generalize parseB (rdOf ByteArray.empty ws 0).data.toList = p0 at *
          generalize parseB ((rdOf ByteArray.empty ws 3).extract 0 (((rdOf ByteArray.empty ws 3).size : Int) - 1).toNat).data.toList = p3 at *
          generalize parseB ((rdOf ByteArray.empty ws 5).extract 0 (((rdOf ByteArray.empty ws 5).size : Int) - 1).toNat).data.toList = p5 at *
          generalize parseB (rdOf ByteArray.empty ws 7).data.toList = p7 at *
          refine ev_neg (by simp) (ev_pos (by omega) (ev_pos (by omega) (Ev.bind h0 (ev_pos (by omega) (ev_pos (by omega) (ev_pos (by omega) (Ev.bind h3 (ev_pos (by omega) (ev_pos (by omega) (ev_pos (by omega) (Ev.bind h5 (ev_pos (by omega) (Ev.bind h7 ?_)))))))))))))
          have h1 := l3One_ev p0.1 (rdOf ByteArray.empty ws 1) p3.1 p5.1 p7.1 (by omega)
          refine Ev.bind h1 ?_
          unfold chk
          cases hb : shadeB p0.1 (rdOf ByteArray.empty ws 1) p3.1 p5.1 p7.1 with
          | false =>
            rw [if_neg (by simp)]
            exact ev_neg (by simp) (Ev.now _)
          | true =>
            rw [if_pos rfl]
            refine ev_pos rfl (Ev.bind (l3Text_ev (good_of hb)) ?_)
            by_cases e : (textB p0.1 (rdOf ByteArray.empty ws 1) p3.1 p5.1 p7.1).toList = s.toList
            · exact ev_pos e (ev_val (if_pos e).symm (Ev.now _))
            · exact ev_neg e (ev_val (if_neg e).symm (Ev.now _))
    · rw [if_neg q8]
      exact ev_neg (by omega) hjT
theorem parseInts_l0 (l : List ByteArray) (hl : l.length ≤ 100) (hx : ∀ w ∈ l, w.size ≤ 1048576) (n : Int) (hn : n = l.length) (d : Nat) : ∀ (i : Nat) (out : List Int), i + d = l.length → out.length ≤ i →
    Ev (fun k => impl_parseInts.l0 k out l n (i : Int)) (if (l.drop i).all (fun w => (parseB w.data.toList).2) = true then (out ++ (l.drop i).map (fun w => (parseB w.data.toList).1), true) else ([], false)) := by
  subst hn
  induction d with
  | zero =>
    intro i out hi ho
    rw [List.drop_eq_nil_of_le (by omega), List.all_nil, if_pos rfl, List.map_nil, List.append_nil]
    refine Ev.step (fun k => rfl) ?_
    simp only [impl_parseInts.l0]
    exact ev_neg (by omega) (Ev.now _)
  | succ d ih =>
    intro i out hi ho
    have hil : i < l.length := by omega
    have hr : rdOf ByteArray.empty l (i : Int) = l[i] := by
      unfold rdOf
      rw [Int.toNat_natCast, List.getD_eq_getElem?_getD, List.getElem?_eq_getElem hil, Option.getD_some]
    have hsz := hx l[i] (List.getElem_mem hil)
    have hp : impl_ParseInt.f l[i] = some (parseB l[i].data.toList) := by
      unfold impl_ParseInt.f
      rw [if_pos hsz]
    rw [List.drop_eq_getElem_cons hil, List.all_cons, List.map_cons]
    refine Ev.step (fun k => rfl) ?_
    simp only [impl_parseInts.l0]
    rw [hr, hp, wrap_in (x := (i : Int) + 1) (by omega) (by omega)]
    refine ev_pos (by omega) (ev_pos (by omega) (ev_pos (by omega) (Ev.bind (Ev.now _) ?_)))
    cases hb : (parseB l[i].data.toList).2 with
    | false =>
      rw [Bool.false_and, if_neg (by simp)]
      exact ev_neg (by simp) (Ev.now _)
    | true =>
      rw [Bool.true_and]
      have := ih (i + 1) (out ++ [(parseB l[i].data.toList).1]) (by omega) (by rw [List.length_append, List.length_singleton]; omega)
      rw [List.append_assoc] at this
      exact ev_pos rfl (ev_pos (by omega) this)
theorem parseInts_ev (a b c d : ByteArray) (ha : a.size ≤ 1048576) (hb : b.size ≤ 1048576) (hc : c.size ≤ 1048576) (hd : d.size ≤ 1048576) : Ev (fun k => impl_parseInts.f k [a, b, c, d])
    (if (parseB a.data.toList).2 = true ∧ (parseB b.data.toList).2 = true ∧ (parseB c.data.toList).2 = true ∧ (parseB d.data.toList).2 = true then ([(parseB a.data.toList).1, (parseB b.data.toList).1, (parseB c.data.toList).1, (parseB d.data.toList).1], true) else ([], false)) := by
  have h := parseInts_l0 [a, b, c, d] (by simp) (by intro w hw; simp only [List.mem_cons, List.not_mem_nil, or_false] at hw; rcases hw with rfl | rfl | rfl | rfl <;> assumption) 4 rfl 4 0 [] rfl (Nat.le_refl _)
  unfold impl_parseInts.f
  refine ev_val ?_ h
  simp only [List.drop_zero, List.all_cons, List.all_nil, Bool.and_true, Bool.and_eq_true, List.map_cons, List.map_nil, List.nil_append]
theorem implEv (s : ByteArray) (hs : s.size ≤ 1048576) : Ev (fun k => impl_ParseShade.f k s) (implV s) := by
  have hr : strings_ReplaceAll.f s (⟨#[44]⟩ : ByteArray) (⟨#[]⟩ : ByteArray) = some (bare s) := by
    unfold strings_ReplaceAll.f
    rw [if_pos hs, if_pos (show (⟨#[44]⟩ : ByteArray).size = 1 from rfl), if_pos (show (⟨#[]⟩ : ByteArray).size = 0 from rfl)]
    have e := replaceAll_eq 44 s.data.toList
    unfold bare numT
    rw [← e]
  have hbs : (bare s).size ≤ s.size := by
    unfold bare
    rw [numT_size, ← len_size]
    exact List.length_filter_le _ _
  have hsp := split_ev (bare s) 32 (by omega)
  have hps := fun i => piece_size 32 (bare s) i
  unfold impl_ParseShade.f implV
  rw [hr]
  refine Ev.bind (Ev.now _) (Ev.bind hsp ?_)
  generalize pieces 32 (bare s) = ws at *
  by_cases q8 : ws.length = 8
  · rw [if_pos q8]
    have hP := parseInts_ev (rdOf ByteArray.empty ws 0) (rdOf ByteArray.empty ws 3) (rdOf ByteArray.empty ws 5) (rdOf ByteArray.empty ws 7) (by have := hps 0; omega) (by have := hps 3; omega) (by have := hps 5; omega) (by have := hps 7; omega)
    refine ev_pos (by omega) (ev_pos (by omega) (ev_pos (by omega) (ev_pos (by omega) (ev_pos (by omega) ?_))))
    generalize parseB (rdOf ByteArray.empty ws 0).data.toList = p0 at *
    generalize parseB (rdOf ByteArray.empty ws 3).data.toList = p3 at *
    generalize parseB (rdOf ByteArray.empty ws 5).data.toList = p5 at *
    generalize parseB (rdOf ByteArray.empty ws 7).data.toList = p7 at *
    by_cases hall : p0.2 = true ∧ p3.2 = true ∧ p5.2 = true ∧ p7.2 = true
    · rw [if_pos hall] at hP ⊢
      refine Ev.bind hP (ev_pos rfl (ev_pos (by simp) (ev_pos (by omega) (ev_pos (by simp) (ev_pos (by simp) (ev_pos (by simp) ?_))))))
      have hT := ShadeText_eq p0.1 (rdOf ByteArray.empty ws 1) p3.1 p5.1 p7.1
      unfold chk
      cases hb : shadeB p0.1 (rdOf ByteArray.empty ws 1) p3.1 p5.1 p7.1 with
      | false => exact Ev.bind (ev_val (show _ = ((⟨#[]⟩ : ByteArray), false) by rw [hb]; rfl) hT) (ev_neg (by decide) (ev_val (by rfl) (Ev.now _)))
      | true =>
        refine Ev.bind (ev_val (show _ = (textB p0.1 (rdOf ByteArray.empty ws 1) p3.1 p5.1 p7.1, true) by rw [hb]; rfl) hT) (ev_pos rfl (ev_val (if_pos rfl).symm ?_))
        by_cases e : (textB p0.1 (rdOf ByteArray.empty ws 1) p3.1 p5.1 p7.1).toList = s.toList
        · exact ev_pos e (ev_val (if_pos e).symm (Ev.now _))
        · exact ev_neg e (ev_val (if_neg e).symm (Ev.now _))
    · rw [if_neg hall] at hP ⊢
      exact Ev.bind hP (ev_neg (by simp) (Ev.now _))
  · rw [if_neg q8]
    exact ev_neg (by omega) (Ev.now _)
end Go.Proofs.YthcgeejoocpbmaaDoor.Pure
