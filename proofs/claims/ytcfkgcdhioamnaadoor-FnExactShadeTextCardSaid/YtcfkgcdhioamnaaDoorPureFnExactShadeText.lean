/- For every shade the program's ShadeText answers as the reference's. -/
import Derived.Test.YtcfkgcdhioamnaaDoorGx11
import Derived.Test.YtcfkgcdhioamnaaDoorGx12
import Derived.Test.YtcfkgcdhioamnaaDoorGx9
import Derived.Test.YtcfkgcdhioamnaaDoorPNum
namespace Go.Proofs.YtcfkgcdhioamnaaDoor.Pure
open Go.RowKit Go.Proofs.YtcfkgcdhioamnaaDoor.G Go.Proofs.YtcfkgcdhioamnaaDoorW.PrintWords Go.Proofs.YtcfkgcdhioamnaaDoorW.PrintLast
set_option linter.unusedSimpArgs false
set_option linter.unusedVariables false

theorem ShadeText_both (a : Int) (n : ByteArray) (b c d : Int) (hn : n.size ≤ 9223372036854775807) : ∃ r : ByteArray × Bool, Ev (fun k => spec_ShadeText.f k a n b c d) r ∧ Ev (fun k => impl_ShadeText.f a n b c d) r := by
  unfold spec_ShadeText.f impl_ShadeText.f spec_l3Text.f
  simp only [IsShade_eq, Option.bind_some]
  have e1 := l3One_ev a n b c d hn
  cases h1 : shadeB a n b c d with
  | false => exact ⟨(⟨#[]⟩, false), Ev.bind (ev_val h1 e1) (ev_neg (by simp) (Ev.now _)), ev_neg (by simp) (Ev.now _)⟩
  | true =>
    obtain ⟨p1, p2, p3, p4, p5, p6, p7, p8, p9⟩ := shade_parts h1
    have sa := numT_size a (by omega) (by omega)
    have sb := numT_size b (by omega) (by omega)
    have sc := numT_size c (by omega) (by omega)
    have sd := numT_size d (by omega) (by omega)
    have ea := l1Num_ev a (by omega) (by omega)
    have eb := l1Num_ev b (by omega) (by omega)
    have ec := l1Num_ev c (by omega) (by omega)
    have ed := l1Num_ev d (by omega) (by omega)
    have k1 : ∀ x : Nat, x ≤ 100 → x ≤ 9223372036854775807 := fun x hx => by omega
    have z1 : (⟨#[32]⟩ : ByteArray).size = 1 := rfl
    have z2 : (⟨#[32, 97, 116, 32]⟩ : ByteArray).size = 4 := rfl
    have z3 : (⟨#[44, 32, 100, 101, 112, 116, 104, 32]⟩ : ByteArray).size = 8 := rfl
    have z4 : (⟨#[44, 32, 102, 97, 115, 116, 32]⟩ : ByteArray).size = 7 := rfl
    rw [decimal_eq a (by omega) (by omega), decimal_eq b (by omega) (by omega), decimal_eq c (by omega) (by omega), decimal_eq d (by omega) (by omega)]
    simp only [Option.bind_some]
    generalize numT a = ta at *
    generalize numT b = tb at *
    generalize numT c = tc at *
    generalize numT d = td at *
    have ok : ∀ {x : Nat} {α : Type} {f g : Nat → Option α} {r : α}, x ≤ 100 → Ev f r → Ev (fun k => if x ≤ 9223372036854775807 then f k else g k) r := fun hx h => ev_pos (k1 _ hx) h
    refine ⟨(((((((ta ++ (⟨#[32]⟩ : ByteArray)) ++ n) ++ (⟨#[32, 97, 116, 32]⟩ : ByteArray)) ++ tb) ++ (⟨#[44, 32, 100, 101, 112, 116, 104, 32]⟩ : ByteArray)) ++ tc) ++ (⟨#[44, 32, 102, 97, 115, 116, 32]⟩ : ByteArray) ++ td, true), ?_, ?_⟩
    · refine Ev.bind (ev_val h1 e1) (ev_pos (by trivial) (Ev.bind (Ev.bind ea (ok (by (try simp only [ByteArray.size_append, z1, z2, z3, z4]); omega) (ok (by (try simp only [ByteArray.size_append, z1, z2, z3, z4]); omega) (ok (by (try simp only [ByteArray.size_append, z1, z2, z3, z4]); omega) (Ev.bind eb (ok (by (try simp only [ByteArray.size_append, z1, z2, z3, z4]); omega) (ok (by (try simp only [ByteArray.size_append, z1, z2, z3, z4]); omega) (Ev.bind ec (ok (by (try simp only [ByteArray.size_append, z1, z2, z3, z4]); omega) (ok (by (try simp only [ByteArray.size_append, z1, z2, z3, z4]); omega) (Ev.bind ed (ok (by (try simp only [ByteArray.size_append, z1, z2, z3, z4]); omega) (Ev.now _))))))))))))) (Ev.now _)))
    · exact ev_pos (by trivial) (ok (by (try simp only [ByteArray.size_append, z1, z2, z3, z4]); omega) (ok (by (try simp only [ByteArray.size_append, z1, z2, z3, z4]); omega) (ok (by (try simp only [ByteArray.size_append, z1, z2, z3, z4]); omega) (ok (by (try simp only [ByteArray.size_append, z1, z2, z3, z4]); omega) (ok (by (try simp only [ByteArray.size_append, z1, z2, z3, z4]); omega) (ok (by (try simp only [ByteArray.size_append, z1, z2, z3, z4]); omega) (ok (by (try simp only [ByteArray.size_append, z1, z2, z3, z4]); omega) (ok (by (try simp only [ByteArray.size_append, z1, z2, z3, z4]); omega) (Ev.now _)))))))))
theorem FnExactShadeText (a : Int) (n : ByteArray) (b c d : Int) (_ : (-9223372036854775808 ≤ a ∧ a ≤ 9223372036854775807)) (hn : n.size ≤ 9223372036854775807) (_ : (-9223372036854775808 ≤ b ∧ b ≤ 9223372036854775807)) (_ : (-9223372036854775808 ≤ c ∧ c ≤ 9223372036854775807)) (_ : (-9223372036854775808 ≤ d ∧ d ≤ 9223372036854775807)) : ∃ k, laws_FnExactShadeText.f k a n b c d = some true := by
  refine Ev.rounds (g := fun k => laws_FnExactShadeText.f k a n b c d) ?_
  unfold laws_FnExactShadeText.f
  obtain ⟨s0, hs0, hb0⟩ := szShade_eq a n b c d 1048576 (by omega) (by omega) hn
  simp only [hs0, Option.bind_some]
  by_cases q0 : s0 < 0
  · exact ev_pos q0 (Ev.now _)
  refine ev_neg q0 ?_
  simp only [toShade_eq, eqShade_eq, Option.bind_some]
  obtain ⟨⟨v1, v2⟩, hS, hI⟩ := ShadeText_both a n b c d hn
  repeat (first
    | exact Ev.now _
    | refine Ev.bind (hS) ?_
    | refine Ev.bind (hI) ?_
    | (refine ev_neg ?hc ?_; (case hc => first | omega | (dsimp only; omega) | (simp; done)))
    | (refine ev_pos ?hc ?_; (case hc => first | exact rfl | omega | (dsimp only; omega) | (simp; done))))
end Go.Proofs.YtcfkgcdhioamnaaDoor.Pure
