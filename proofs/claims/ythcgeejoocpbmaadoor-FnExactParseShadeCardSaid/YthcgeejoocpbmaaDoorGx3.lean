-- Printed by a program of this session (wip/tools/gp.sh); Lean checks it.
import Derived.Test.YthcgeejoocpbmaaDoorGx0
import Derived.Test.YthcgeejoocpbmaaDoorGx1
import Derived.Test.YthcgeejoocpbmaaDoorGx2
namespace Go.Proofs.YthcgeejoocpbmaaDoor.G
open Go.RowKit Go.Proofs.YthcgeejoocpbmaaDoorW.PrintWords Go.Proofs.YthcgeejoocpbmaaDoorW.PrintLast Go.Proofs.YthcgeejoocpbmaaDoorW.PrintMore
attribute [local go_sem] isSome_setCell_ max2_int min2_int max_two min_two max_three min_three max_four min_four   -- for this text's walks alone
set_option linter.unusedVariables false
set_option linter.unusedSimpArgs false
-- zlits
theorem zl3_0 : (⟨#[32, 97, 116, 32]⟩ : ByteArray).size = 4 := rfl
theorem zl3_1 : (⟨#[32]⟩ : ByteArray).size = 1 := rfl
theorem zl3_2 : (⟨#[44, 32, 100, 101, 112, 116, 104, 32]⟩ : ByteArray).size = 8 := rfl
theorem zl3_3 : (⟨#[44, 32, 102, 97, 115, 116, 32]⟩ : ByteArray).size = 7 := rfl

/-! ### impl_ShadeText: function 20 -/
def impl_ShadeText.f (a0_0 : Int) (a0_1 : ByteArray) (a0_2 : Int) (a0_3 : Int) (a0_4 : Int) : Option (ByteArray × Bool) := (impl_IsShade.f a0_0 a0_1 a0_2 a0_3 a0_4).bind fun t130 => (if t130 = true then ((impl_decimal.f a0_0).bind fun t131 => (if t131.size + 1 ≤ 9223372036854775807 then (if (t131 ++ (⟨#[32]⟩ : ByteArray)).size + a0_1.size ≤ 9223372036854775807 then (if ((t131 ++ (⟨#[32]⟩ : ByteArray)) ++ a0_1).size + 4 ≤ 9223372036854775807 then ((impl_decimal.f a0_2).bind fun t132 => (if (((t131 ++ (⟨#[32]⟩ : ByteArray)) ++ a0_1) ++ (⟨#[32, 97, 116, 32]⟩ : ByteArray)).size + t132.size ≤ 9223372036854775807 then (if ((((t131 ++ (⟨#[32]⟩ : ByteArray)) ++ a0_1) ++ (⟨#[32, 97, 116, 32]⟩ : ByteArray)) ++ t132).size + 8 ≤ 9223372036854775807 then ((impl_decimal.f a0_3).bind fun t133 => (if (((((t131 ++ (⟨#[32]⟩ : ByteArray)) ++ a0_1) ++ (⟨#[32, 97, 116, 32]⟩ : ByteArray)) ++ t132) ++ (⟨#[44, 32, 100, 101, 112, 116, 104, 32]⟩ : ByteArray)).size + t133.size ≤ 9223372036854775807 then (if ((((((t131 ++ (⟨#[32]⟩ : ByteArray)) ++ a0_1) ++ (⟨#[32, 97, 116, 32]⟩ : ByteArray)) ++ t132) ++ (⟨#[44, 32, 100, 101, 112, 116, 104, 32]⟩ : ByteArray)) ++ t133).size + 7 ≤ 9223372036854775807 then ((impl_decimal.f a0_4).bind fun t134 => (if (((((((t131 ++ (⟨#[32]⟩ : ByteArray)) ++ a0_1) ++ (⟨#[32, 97, 116, 32]⟩ : ByteArray)) ++ t132) ++ (⟨#[44, 32, 100, 101, 112, 116, 104, 32]⟩ : ByteArray)) ++ t133) ++ (⟨#[44, 32, 102, 97, 115, 116, 32]⟩ : ByteArray)).size + t134.size ≤ 9223372036854775807 then (some ((((((((t131 ++ (⟨#[32]⟩ : ByteArray)) ++ a0_1) ++ (⟨#[32, 97, 116, 32]⟩ : ByteArray)) ++ t132) ++ (⟨#[44, 32, 100, 101, 112, 116, 104, 32]⟩ : ByteArray)) ++ t133) ++ (⟨#[44, 32, 102, 97, 115, 116, 32]⟩ : ByteArray)) ++ t134, true)) else (none))) else (none)) else (none))) else (none)) else (none))) else (none)) else (none)) else (none))) else (some ((⟨#[]⟩ : ByteArray), false)))
def impl_ShadeText.T3 : Bool × List (List Nat × List Nat) := (true, [([], []), ([0], [0]), ([1], [1]), ([2], [2]), ([], []), ([4], [4]), ([3, 5], [3, 5]), ([6], [6]), ([], []), ([8], [8]), ([9, 2], [9]), ([7, 10], [7, 10]), ([11], [11]), ([], []), ([13], [13]), ([14, 10], [14]), ([12, 15], [12, 15]), ([16], [16]), ([], []), ([18], [18]), ([19, 15], [19]), ([17, 20], [17, 20]), ([21, 20, 0, 1, 2, 3, 4, 5, 6, 7, 8, 9, 10, 11, 12, 13, 14, 15, 16, 17, 18, 19, 20, 21], [21]), ([22, 0, 1, 2, 3, 4, 5, 6, 7, 8, 9, 10, 11, 12, 13, 14, 15, 16, 17, 18, 19, 20, 21, 22], [])])
def impl_ShadeText.B3 : List Nat := [0, 1, 3, 7, 0, 16, 63, 127, 0, 256, 775, 2047, 4095, 0, 8192, 26375, 65535, 131071, 0, 262144, 845575, 2097151, 4194303, 8388607]
theorem impl_ShadeText.tab3 : rtab .any (opsOf Tryd.f20 3) = impl_ShadeText.T3 := by kernel_rfl
theorem impl_ShadeText.bits3 : waitsOk impl_ShadeText.T3.2 impl_ShadeText.B3 = true := by kernel_rfl
set_option maxHeartbeats 8000000 in
set_option maxRecDepth 100000 in
theorem impl_ShadeText.calls (a0_0 : Int) (a0_1 : ByteArray) (a0_2 : Int) (a0_3 : Int) (a0_4 : Int) (r1 : ByteArray) (r2 : Bool) (w : World) (h : impl_ShadeText.f a0_0 a0_1 a0_2 a0_3 a0_4 = some (r1, r2)) (hT : TT w) :
    Calls Tryd.prog 20 #[.agg #[.int .i64 a0_0, .string a0_1, .int .i64 a0_2, .int .i64 a0_3, .int .i64 a0_4]] w fun e w' => e = .returned (.tuple #[.string r1, .bool r2]) ∧ Below w.heap.size w w' := by
  have HT := Aside0.mk hT
  clear hT
  have hu26 := Tryd.underlying26
  have HB := Aside0.mk (Below.refl w.heap.size w)
  have H : ((impl_IsShade.f a0_0 a0_1 a0_2 a0_3 a0_4).bind fun t130 => (if t130 = true then ((impl_decimal.f a0_0).bind fun t131 => (if t131.size + 1 ≤ 9223372036854775807 then (if (t131 ++ (⟨#[32]⟩ : ByteArray)).size + a0_1.size ≤ 9223372036854775807 then (if ((t131 ++ (⟨#[32]⟩ : ByteArray)) ++ a0_1).size + 4 ≤ 9223372036854775807 then ((impl_decimal.f a0_2).bind fun t132 => (if (((t131 ++ (⟨#[32]⟩ : ByteArray)) ++ a0_1) ++ (⟨#[32, 97, 116, 32]⟩ : ByteArray)).size + t132.size ≤ 9223372036854775807 then (if ((((t131 ++ (⟨#[32]⟩ : ByteArray)) ++ a0_1) ++ (⟨#[32, 97, 116, 32]⟩ : ByteArray)) ++ t132).size + 8 ≤ 9223372036854775807 then ((impl_decimal.f a0_3).bind fun t133 => (if (((((t131 ++ (⟨#[32]⟩ : ByteArray)) ++ a0_1) ++ (⟨#[32, 97, 116, 32]⟩ : ByteArray)) ++ t132) ++ (⟨#[44, 32, 100, 101, 112, 116, 104, 32]⟩ : ByteArray)).size + t133.size ≤ 9223372036854775807 then (if ((((((t131 ++ (⟨#[32]⟩ : ByteArray)) ++ a0_1) ++ (⟨#[32, 97, 116, 32]⟩ : ByteArray)) ++ t132) ++ (⟨#[44, 32, 100, 101, 112, 116, 104, 32]⟩ : ByteArray)) ++ t133).size + 7 ≤ 9223372036854775807 then ((impl_decimal.f a0_4).bind fun t134 => (if (((((((t131 ++ (⟨#[32]⟩ : ByteArray)) ++ a0_1) ++ (⟨#[32, 97, 116, 32]⟩ : ByteArray)) ++ t132) ++ (⟨#[44, 32, 100, 101, 112, 116, 104, 32]⟩ : ByteArray)) ++ t133) ++ (⟨#[44, 32, 102, 97, 115, 116, 32]⟩ : ByteArray)).size + t134.size ≤ 9223372036854775807 then (some ((((((((t131 ++ (⟨#[32]⟩ : ByteArray)) ++ a0_1) ++ (⟨#[32, 97, 116, 32]⟩ : ByteArray)) ++ t132) ++ (⟨#[44, 32, 100, 101, 112, 116, 104, 32]⟩ : ByteArray)) ++ t133) ++ (⟨#[44, 32, 102, 97, 115, 116, 32]⟩ : ByteArray)) ++ t134, true)) else (none))) else (none)) else (none))) else (none)) else (none))) else (none)) else (none)) else (none))) else (some ((⟨#[]⟩ : ByteArray), false)))) = some (r1, r2) := h
  clear h
  replace H := Option.bind_eq_some_iff.mp H
  obtain ⟨t130, A20, H⟩ := H
  replace H : (if t130 = true then ((impl_decimal.f a0_0).bind fun t131 => (if t131.size + 1 ≤ 9223372036854775807 then (if (t131 ++ (⟨#[32]⟩ : ByteArray)).size + a0_1.size ≤ 9223372036854775807 then (if ((t131 ++ (⟨#[32]⟩ : ByteArray)) ++ a0_1).size + 4 ≤ 9223372036854775807 then ((impl_decimal.f a0_2).bind fun t132 => (if (((t131 ++ (⟨#[32]⟩ : ByteArray)) ++ a0_1) ++ (⟨#[32, 97, 116, 32]⟩ : ByteArray)).size + t132.size ≤ 9223372036854775807 then (if ((((t131 ++ (⟨#[32]⟩ : ByteArray)) ++ a0_1) ++ (⟨#[32, 97, 116, 32]⟩ : ByteArray)) ++ t132).size + 8 ≤ 9223372036854775807 then ((impl_decimal.f a0_3).bind fun t133 => (if (((((t131 ++ (⟨#[32]⟩ : ByteArray)) ++ a0_1) ++ (⟨#[32, 97, 116, 32]⟩ : ByteArray)) ++ t132) ++ (⟨#[44, 32, 100, 101, 112, 116, 104, 32]⟩ : ByteArray)).size + t133.size ≤ 9223372036854775807 then (if ((((((t131 ++ (⟨#[32]⟩ : ByteArray)) ++ a0_1) ++ (⟨#[32, 97, 116, 32]⟩ : ByteArray)) ++ t132) ++ (⟨#[44, 32, 100, 101, 112, 116, 104, 32]⟩ : ByteArray)) ++ t133).size + 7 ≤ 9223372036854775807 then ((impl_decimal.f a0_4).bind fun t134 => (if (((((((t131 ++ (⟨#[32]⟩ : ByteArray)) ++ a0_1) ++ (⟨#[32, 97, 116, 32]⟩ : ByteArray)) ++ t132) ++ (⟨#[44, 32, 100, 101, 112, 116, 104, 32]⟩ : ByteArray)) ++ t133) ++ (⟨#[44, 32, 102, 97, 115, 116, 32]⟩ : ByteArray)).size + t134.size ≤ 9223372036854775807 then (some ((((((((t131 ++ (⟨#[32]⟩ : ByteArray)) ++ a0_1) ++ (⟨#[32, 97, 116, 32]⟩ : ByteArray)) ++ t132) ++ (⟨#[44, 32, 100, 101, 112, 116, 104, 32]⟩ : ByteArray)) ++ t133) ++ (⟨#[44, 32, 102, 97, 115, 116, 32]⟩ : ByteArray)) ++ t134, true)) else (none))) else (none)) else (none))) else (none)) else (none))) else (none)) else (none)) else (none))) else (some ((⟨#[]⟩ : ByteArray), false))) = some (r1, r2) := H
  have A2 := Aside0.mk A20
  clear A20
  by_cases c3 : t130 = true
  · subst c3
    have H1 : ((impl_decimal.f a0_0).bind fun t131 => (if t131.size + 1 ≤ 9223372036854775807 then (if (t131 ++ (⟨#[32]⟩ : ByteArray)).size + a0_1.size ≤ 9223372036854775807 then (if ((t131 ++ (⟨#[32]⟩ : ByteArray)) ++ a0_1).size + 4 ≤ 9223372036854775807 then ((impl_decimal.f a0_2).bind fun t132 => (if (((t131 ++ (⟨#[32]⟩ : ByteArray)) ++ a0_1) ++ (⟨#[32, 97, 116, 32]⟩ : ByteArray)).size + t132.size ≤ 9223372036854775807 then (if ((((t131 ++ (⟨#[32]⟩ : ByteArray)) ++ a0_1) ++ (⟨#[32, 97, 116, 32]⟩ : ByteArray)) ++ t132).size + 8 ≤ 9223372036854775807 then ((impl_decimal.f a0_3).bind fun t133 => (if (((((t131 ++ (⟨#[32]⟩ : ByteArray)) ++ a0_1) ++ (⟨#[32, 97, 116, 32]⟩ : ByteArray)) ++ t132) ++ (⟨#[44, 32, 100, 101, 112, 116, 104, 32]⟩ : ByteArray)).size + t133.size ≤ 9223372036854775807 then (if ((((((t131 ++ (⟨#[32]⟩ : ByteArray)) ++ a0_1) ++ (⟨#[32, 97, 116, 32]⟩ : ByteArray)) ++ t132) ++ (⟨#[44, 32, 100, 101, 112, 116, 104, 32]⟩ : ByteArray)) ++ t133).size + 7 ≤ 9223372036854775807 then ((impl_decimal.f a0_4).bind fun t134 => (if (((((((t131 ++ (⟨#[32]⟩ : ByteArray)) ++ a0_1) ++ (⟨#[32, 97, 116, 32]⟩ : ByteArray)) ++ t132) ++ (⟨#[44, 32, 100, 101, 112, 116, 104, 32]⟩ : ByteArray)) ++ t133) ++ (⟨#[44, 32, 102, 97, 115, 116, 32]⟩ : ByteArray)).size + t134.size ≤ 9223372036854775807 then (some ((((((((t131 ++ (⟨#[32]⟩ : ByteArray)) ++ a0_1) ++ (⟨#[32, 97, 116, 32]⟩ : ByteArray)) ++ t132) ++ (⟨#[44, 32, 100, 101, 112, 116, 104, 32]⟩ : ByteArray)) ++ t133) ++ (⟨#[44, 32, 102, 97, 115, 116, 32]⟩ : ByteArray)) ++ t134, true)) else (none))) else (none)) else (none))) else (none)) else (none))) else (none)) else (none)) else (none))) = some (r1, r2) := by rw [if_pos rfl] at H; exact H
    clear H
    have H := H1
    clear H1
    replace H := Option.bind_eq_some_iff.mp H
    obtain ⟨t131, A40, H⟩ := H
    replace H : (if t131.size + 1 ≤ 9223372036854775807 then (if (t131 ++ (⟨#[32]⟩ : ByteArray)).size + a0_1.size ≤ 9223372036854775807 then (if ((t131 ++ (⟨#[32]⟩ : ByteArray)) ++ a0_1).size + 4 ≤ 9223372036854775807 then ((impl_decimal.f a0_2).bind fun t132 => (if (((t131 ++ (⟨#[32]⟩ : ByteArray)) ++ a0_1) ++ (⟨#[32, 97, 116, 32]⟩ : ByteArray)).size + t132.size ≤ 9223372036854775807 then (if ((((t131 ++ (⟨#[32]⟩ : ByteArray)) ++ a0_1) ++ (⟨#[32, 97, 116, 32]⟩ : ByteArray)) ++ t132).size + 8 ≤ 9223372036854775807 then ((impl_decimal.f a0_3).bind fun t133 => (if (((((t131 ++ (⟨#[32]⟩ : ByteArray)) ++ a0_1) ++ (⟨#[32, 97, 116, 32]⟩ : ByteArray)) ++ t132) ++ (⟨#[44, 32, 100, 101, 112, 116, 104, 32]⟩ : ByteArray)).size + t133.size ≤ 9223372036854775807 then (if ((((((t131 ++ (⟨#[32]⟩ : ByteArray)) ++ a0_1) ++ (⟨#[32, 97, 116, 32]⟩ : ByteArray)) ++ t132) ++ (⟨#[44, 32, 100, 101, 112, 116, 104, 32]⟩ : ByteArray)) ++ t133).size + 7 ≤ 9223372036854775807 then ((impl_decimal.f a0_4).bind fun t134 => (if (((((((t131 ++ (⟨#[32]⟩ : ByteArray)) ++ a0_1) ++ (⟨#[32, 97, 116, 32]⟩ : ByteArray)) ++ t132) ++ (⟨#[44, 32, 100, 101, 112, 116, 104, 32]⟩ : ByteArray)) ++ t133) ++ (⟨#[44, 32, 102, 97, 115, 116, 32]⟩ : ByteArray)).size + t134.size ≤ 9223372036854775807 then (some ((((((((t131 ++ (⟨#[32]⟩ : ByteArray)) ++ a0_1) ++ (⟨#[32, 97, 116, 32]⟩ : ByteArray)) ++ t132) ++ (⟨#[44, 32, 100, 101, 112, 116, 104, 32]⟩ : ByteArray)) ++ t133) ++ (⟨#[44, 32, 102, 97, 115, 116, 32]⟩ : ByteArray)) ++ t134, true)) else (none))) else (none)) else (none))) else (none)) else (none))) else (none)) else (none)) else (none)) = some (r1, r2) := H
    have A4 := Aside0.mk A40
    clear A40
    by_cases c5 : t131.size + 1 ≤ 9223372036854775807
    · rw [if_pos c5] at H
      have c5b0 := eq_true c5
      have c5b1 : decide (t131.size + 1 ≤ 9223372036854775807) = true := decide_eq_true c5
      try have c5b2 : (9223372036854775807 < t131.size + 1) = False := eq_false (Nat.not_lt.2 c5)
      by_cases c6 : (t131 ++ (⟨#[32]⟩ : ByteArray)).size + a0_1.size ≤ 9223372036854775807
      · rw [if_pos c6] at H
        have c6b0 := eq_true c6
        have c6b1 : decide ((t131 ++ (⟨#[32]⟩ : ByteArray)).size + a0_1.size ≤ 9223372036854775807) = true := decide_eq_true c6
        try (have c6b1z := c6b1; simp only [ByteArray.size_append, zl3_0, zl3_1, zl3_2, zl3_3, Int.natCast_add] at c6b1z; try push_cast at c6b1z)
        try have c6b2 : (9223372036854775807 < (t131 ++ (⟨#[32]⟩ : ByteArray)).size + a0_1.size) = False := eq_false (Nat.not_lt.2 c6)
        try (have c6b2z := c6b2; simp only [ByteArray.size_append, zl3_0, zl3_1, zl3_2, zl3_3, Int.natCast_add] at c6b2z; try push_cast at c6b2z)
        by_cases c7 : ((t131 ++ (⟨#[32]⟩ : ByteArray)) ++ a0_1).size + 4 ≤ 9223372036854775807
        · rw [if_pos c7] at H
          have c7b0 := eq_true c7
          have c7b1 : decide (((t131 ++ (⟨#[32]⟩ : ByteArray)) ++ a0_1).size + 4 ≤ 9223372036854775807) = true := decide_eq_true c7
          try (have c7b1z := c7b1; simp only [ByteArray.size_append, zl3_0, zl3_1, zl3_2, zl3_3, Int.natCast_add] at c7b1z; try push_cast at c7b1z)
          try have c7b2 : (9223372036854775807 < ((t131 ++ (⟨#[32]⟩ : ByteArray)) ++ a0_1).size + 4) = False := eq_false (Nat.not_lt.2 c7)
          try (have c7b2z := c7b2; simp only [ByteArray.size_append, zl3_0, zl3_1, zl3_2, zl3_3, Int.natCast_add] at c7b2z; try push_cast at c7b2z)
          replace H := Option.bind_eq_some_iff.mp H
          obtain ⟨t132, A80, H⟩ := H
          replace H : (if (((t131 ++ (⟨#[32]⟩ : ByteArray)) ++ a0_1) ++ (⟨#[32, 97, 116, 32]⟩ : ByteArray)).size + t132.size ≤ 9223372036854775807 then (if ((((t131 ++ (⟨#[32]⟩ : ByteArray)) ++ a0_1) ++ (⟨#[32, 97, 116, 32]⟩ : ByteArray)) ++ t132).size + 8 ≤ 9223372036854775807 then ((impl_decimal.f a0_3).bind fun t133 => (if (((((t131 ++ (⟨#[32]⟩ : ByteArray)) ++ a0_1) ++ (⟨#[32, 97, 116, 32]⟩ : ByteArray)) ++ t132) ++ (⟨#[44, 32, 100, 101, 112, 116, 104, 32]⟩ : ByteArray)).size + t133.size ≤ 9223372036854775807 then (if ((((((t131 ++ (⟨#[32]⟩ : ByteArray)) ++ a0_1) ++ (⟨#[32, 97, 116, 32]⟩ : ByteArray)) ++ t132) ++ (⟨#[44, 32, 100, 101, 112, 116, 104, 32]⟩ : ByteArray)) ++ t133).size + 7 ≤ 9223372036854775807 then ((impl_decimal.f a0_4).bind fun t134 => (if (((((((t131 ++ (⟨#[32]⟩ : ByteArray)) ++ a0_1) ++ (⟨#[32, 97, 116, 32]⟩ : ByteArray)) ++ t132) ++ (⟨#[44, 32, 100, 101, 112, 116, 104, 32]⟩ : ByteArray)) ++ t133) ++ (⟨#[44, 32, 102, 97, 115, 116, 32]⟩ : ByteArray)).size + t134.size ≤ 9223372036854775807 then (some ((((((((t131 ++ (⟨#[32]⟩ : ByteArray)) ++ a0_1) ++ (⟨#[32, 97, 116, 32]⟩ : ByteArray)) ++ t132) ++ (⟨#[44, 32, 100, 101, 112, 116, 104, 32]⟩ : ByteArray)) ++ t133) ++ (⟨#[44, 32, 102, 97, 115, 116, 32]⟩ : ByteArray)) ++ t134, true)) else (none))) else (none)) else (none))) else (none)) else (none)) = some (r1, r2) := H
          have A8 := Aside0.mk A80
          clear A80
          by_cases c9 : (((t131 ++ (⟨#[32]⟩ : ByteArray)) ++ a0_1) ++ (⟨#[32, 97, 116, 32]⟩ : ByteArray)).size + t132.size ≤ 9223372036854775807
          · rw [if_pos c9] at H
            have c9b0 := eq_true c9
            have c9b1 : decide ((((t131 ++ (⟨#[32]⟩ : ByteArray)) ++ a0_1) ++ (⟨#[32, 97, 116, 32]⟩ : ByteArray)).size + t132.size ≤ 9223372036854775807) = true := decide_eq_true c9
            try (have c9b1z := c9b1; simp only [ByteArray.size_append, zl3_0, zl3_1, zl3_2, zl3_3, Int.natCast_add] at c9b1z; try push_cast at c9b1z)
            try have c9b2 : (9223372036854775807 < (((t131 ++ (⟨#[32]⟩ : ByteArray)) ++ a0_1) ++ (⟨#[32, 97, 116, 32]⟩ : ByteArray)).size + t132.size) = False := eq_false (Nat.not_lt.2 c9)
            try (have c9b2z := c9b2; simp only [ByteArray.size_append, zl3_0, zl3_1, zl3_2, zl3_3, Int.natCast_add] at c9b2z; try push_cast at c9b2z)
            by_cases c10 : ((((t131 ++ (⟨#[32]⟩ : ByteArray)) ++ a0_1) ++ (⟨#[32, 97, 116, 32]⟩ : ByteArray)) ++ t132).size + 8 ≤ 9223372036854775807
            · rw [if_pos c10] at H
              have c10b0 := eq_true c10
              have c10b1 : decide (((((t131 ++ (⟨#[32]⟩ : ByteArray)) ++ a0_1) ++ (⟨#[32, 97, 116, 32]⟩ : ByteArray)) ++ t132).size + 8 ≤ 9223372036854775807) = true := decide_eq_true c10
              try (have c10b1z := c10b1; simp only [ByteArray.size_append, zl3_0, zl3_1, zl3_2, zl3_3, Int.natCast_add] at c10b1z; try push_cast at c10b1z)
              try have c10b2 : (9223372036854775807 < ((((t131 ++ (⟨#[32]⟩ : ByteArray)) ++ a0_1) ++ (⟨#[32, 97, 116, 32]⟩ : ByteArray)) ++ t132).size + 8) = False := eq_false (Nat.not_lt.2 c10)
              try (have c10b2z := c10b2; simp only [ByteArray.size_append, zl3_0, zl3_1, zl3_2, zl3_3, Int.natCast_add] at c10b2z; try push_cast at c10b2z)
              replace H := Option.bind_eq_some_iff.mp H
              obtain ⟨t133, A110, H⟩ := H
              replace H : (if (((((t131 ++ (⟨#[32]⟩ : ByteArray)) ++ a0_1) ++ (⟨#[32, 97, 116, 32]⟩ : ByteArray)) ++ t132) ++ (⟨#[44, 32, 100, 101, 112, 116, 104, 32]⟩ : ByteArray)).size + t133.size ≤ 9223372036854775807 then (if ((((((t131 ++ (⟨#[32]⟩ : ByteArray)) ++ a0_1) ++ (⟨#[32, 97, 116, 32]⟩ : ByteArray)) ++ t132) ++ (⟨#[44, 32, 100, 101, 112, 116, 104, 32]⟩ : ByteArray)) ++ t133).size + 7 ≤ 9223372036854775807 then ((impl_decimal.f a0_4).bind fun t134 => (if (((((((t131 ++ (⟨#[32]⟩ : ByteArray)) ++ a0_1) ++ (⟨#[32, 97, 116, 32]⟩ : ByteArray)) ++ t132) ++ (⟨#[44, 32, 100, 101, 112, 116, 104, 32]⟩ : ByteArray)) ++ t133) ++ (⟨#[44, 32, 102, 97, 115, 116, 32]⟩ : ByteArray)).size + t134.size ≤ 9223372036854775807 then (some ((((((((t131 ++ (⟨#[32]⟩ : ByteArray)) ++ a0_1) ++ (⟨#[32, 97, 116, 32]⟩ : ByteArray)) ++ t132) ++ (⟨#[44, 32, 100, 101, 112, 116, 104, 32]⟩ : ByteArray)) ++ t133) ++ (⟨#[44, 32, 102, 97, 115, 116, 32]⟩ : ByteArray)) ++ t134, true)) else (none))) else (none)) else (none)) = some (r1, r2) := H
              have A11 := Aside0.mk A110
              clear A110
              by_cases c12 : (((((t131 ++ (⟨#[32]⟩ : ByteArray)) ++ a0_1) ++ (⟨#[32, 97, 116, 32]⟩ : ByteArray)) ++ t132) ++ (⟨#[44, 32, 100, 101, 112, 116, 104, 32]⟩ : ByteArray)).size + t133.size ≤ 9223372036854775807
              · rw [if_pos c12] at H
                have c12b0 := eq_true c12
                have c12b1 : decide ((((((t131 ++ (⟨#[32]⟩ : ByteArray)) ++ a0_1) ++ (⟨#[32, 97, 116, 32]⟩ : ByteArray)) ++ t132) ++ (⟨#[44, 32, 100, 101, 112, 116, 104, 32]⟩ : ByteArray)).size + t133.size ≤ 9223372036854775807) = true := decide_eq_true c12
                try (have c12b1z := c12b1; simp only [ByteArray.size_append, zl3_0, zl3_1, zl3_2, zl3_3, Int.natCast_add] at c12b1z; try push_cast at c12b1z)
                try have c12b2 : (9223372036854775807 < (((((t131 ++ (⟨#[32]⟩ : ByteArray)) ++ a0_1) ++ (⟨#[32, 97, 116, 32]⟩ : ByteArray)) ++ t132) ++ (⟨#[44, 32, 100, 101, 112, 116, 104, 32]⟩ : ByteArray)).size + t133.size) = False := eq_false (Nat.not_lt.2 c12)
                try (have c12b2z := c12b2; simp only [ByteArray.size_append, zl3_0, zl3_1, zl3_2, zl3_3, Int.natCast_add] at c12b2z; try push_cast at c12b2z)
                by_cases c13 : ((((((t131 ++ (⟨#[32]⟩ : ByteArray)) ++ a0_1) ++ (⟨#[32, 97, 116, 32]⟩ : ByteArray)) ++ t132) ++ (⟨#[44, 32, 100, 101, 112, 116, 104, 32]⟩ : ByteArray)) ++ t133).size + 7 ≤ 9223372036854775807
                · rw [if_pos c13] at H
                  have c13b0 := eq_true c13
                  have c13b1 : decide (((((((t131 ++ (⟨#[32]⟩ : ByteArray)) ++ a0_1) ++ (⟨#[32, 97, 116, 32]⟩ : ByteArray)) ++ t132) ++ (⟨#[44, 32, 100, 101, 112, 116, 104, 32]⟩ : ByteArray)) ++ t133).size + 7 ≤ 9223372036854775807) = true := decide_eq_true c13
                  try (have c13b1z := c13b1; simp only [ByteArray.size_append, zl3_0, zl3_1, zl3_2, zl3_3, Int.natCast_add] at c13b1z; try push_cast at c13b1z)
                  try have c13b2 : (9223372036854775807 < ((((((t131 ++ (⟨#[32]⟩ : ByteArray)) ++ a0_1) ++ (⟨#[32, 97, 116, 32]⟩ : ByteArray)) ++ t132) ++ (⟨#[44, 32, 100, 101, 112, 116, 104, 32]⟩ : ByteArray)) ++ t133).size + 7) = False := eq_false (Nat.not_lt.2 c13)
                  try (have c13b2z := c13b2; simp only [ByteArray.size_append, zl3_0, zl3_1, zl3_2, zl3_3, Int.natCast_add] at c13b2z; try push_cast at c13b2z)
                  replace H := Option.bind_eq_some_iff.mp H
                  obtain ⟨t134, A140, H⟩ := H
                  replace H : (if (((((((t131 ++ (⟨#[32]⟩ : ByteArray)) ++ a0_1) ++ (⟨#[32, 97, 116, 32]⟩ : ByteArray)) ++ t132) ++ (⟨#[44, 32, 100, 101, 112, 116, 104, 32]⟩ : ByteArray)) ++ t133) ++ (⟨#[44, 32, 102, 97, 115, 116, 32]⟩ : ByteArray)).size + t134.size ≤ 9223372036854775807 then (some ((((((((t131 ++ (⟨#[32]⟩ : ByteArray)) ++ a0_1) ++ (⟨#[32, 97, 116, 32]⟩ : ByteArray)) ++ t132) ++ (⟨#[44, 32, 100, 101, 112, 116, 104, 32]⟩ : ByteArray)) ++ t133) ++ (⟨#[44, 32, 102, 97, 115, 116, 32]⟩ : ByteArray)) ++ t134, true)) else (none)) = some (r1, r2) := H
                  have A14 := Aside0.mk A140
                  clear A140
                  by_cases c15 : (((((((t131 ++ (⟨#[32]⟩ : ByteArray)) ++ a0_1) ++ (⟨#[32, 97, 116, 32]⟩ : ByteArray)) ++ t132) ++ (⟨#[44, 32, 100, 101, 112, 116, 104, 32]⟩ : ByteArray)) ++ t133) ++ (⟨#[44, 32, 102, 97, 115, 116, 32]⟩ : ByteArray)).size + t134.size ≤ 9223372036854775807
                  · rw [if_pos c15] at H
                    have c15b0 := eq_true c15
                    have c15b1 : decide ((((((((t131 ++ (⟨#[32]⟩ : ByteArray)) ++ a0_1) ++ (⟨#[32, 97, 116, 32]⟩ : ByteArray)) ++ t132) ++ (⟨#[44, 32, 100, 101, 112, 116, 104, 32]⟩ : ByteArray)) ++ t133) ++ (⟨#[44, 32, 102, 97, 115, 116, 32]⟩ : ByteArray)).size + t134.size ≤ 9223372036854775807) = true := decide_eq_true c15
                    try (have c15b1z := c15b1; simp only [ByteArray.size_append, zl3_0, zl3_1, zl3_2, zl3_3, Int.natCast_add] at c15b1z; try push_cast at c15b1z)
                    try have c15b2 : (9223372036854775807 < (((((((t131 ++ (⟨#[32]⟩ : ByteArray)) ++ a0_1) ++ (⟨#[32, 97, 116, 32]⟩ : ByteArray)) ++ t132) ++ (⟨#[44, 32, 100, 101, 112, 116, 104, 32]⟩ : ByteArray)) ++ t133) ++ (⟨#[44, 32, 102, 97, 115, 116, 32]⟩ : ByteArray)).size + t134.size) = False := eq_false (Nat.not_lt.2 c15)
                    try (have c15b2z := c15b2; simp only [ByteArray.size_append, zl3_0, zl3_1, zl3_2, zl3_3, Int.natCast_add] at c15b2z; try push_cast at c15b2z)
                    simp only [Option.some.injEq, Prod.mk.injEq] at H
                    obtain ⟨rfl, rfl⟩ := H
                    go_enter Tryd.func20, Tryd.ntmps20
                    try go_wp2_with (first | ((with_reducible refine gate_dst (N := 1) rfl ?_); refine box_event ?hg (N := 1) ?hd (cs := #[.int .i64 a0_0, .string a0_1, .int .i64 a0_2, .int .i64 a0_3, .int .i64 a0_4]) (t := 26) ?hr ?_; (case hd => rfl); (case hg => rfl); (case hr => first | (go_simp; done) | (go_simp; rfl)); intro gb129 hg w16 hbox hb; have n0_ := Aside0.mk (below_step (by repeat (first | (with_reducible first | exact HB.out | apply below_alloc | apply pw_below_drewN | apply below_drew1) | exact HB.out)) hb); have n1_ := Aside0.mk (hbox); have n2_ := Aside0.mk ((by rw [hg]; exact (below_size (by repeat (first | (with_reducible first | exact HB.out | apply below_alloc | apply pw_below_drewN | apply below_drew1) | exact HB.out))) : w.heap.size ≤ gb129)); have n3_ := Aside0.mk ((by rw [hg]; exact (below_size (by repeat (first | (with_reducible first | exact HB.out | apply below_alloc | apply pw_below_drewN | apply below_drew1) | exact HB.out))) : w.heap.size ≤ gb129)); clear HB; have HB := n0_; have BK129 := n1_; have GW129 := n2_; have GE129 := n3_; clear n0_ n1_ n2_ n3_; clear hb hbox hg; have hcz17_0 : w16.cell? ⟨gb129, 0, none⟩ = some (.int .i64 a0_0) := (blk_cell BK129.out 0).trans rfl; have hcz17_1 : w16.cell? ⟨gb129, 1, none⟩ = some (.string a0_1) := (blk_cell BK129.out 1).trans rfl; have hcz17_2 : w16.cell? ⟨gb129, 2, none⟩ = some (.int .i64 a0_2) := (blk_cell BK129.out 2).trans rfl; have hcz17_3 : w16.cell? ⟨gb129, 3, none⟩ = some (.int .i64 a0_3) := (blk_cell BK129.out 3).trans rfl; have hcz17_4 : w16.cell? ⟨gb129, 4, none⟩ = some (.int .i64 a0_4) := (blk_cell BK129.out 4).trans rfl; have hfz17_0 := blk_frozen BK129.out 0; have hfz17_1 := blk_frozen BK129.out 1; have hfz17_2 := blk_frozen BK129.out 2; have hfz17_3 := blk_frozen BK129.out 3; have hfz17_4 := blk_frozen BK129.out 4) | ((with_reducible refine gate_callee (f := 31) rfl ?_); refine goesL_ (some 5) rfl rfl Tryd.func31 (by kernel_rfl) rfl #[.agg #[.int .i64 a0_0, .string a0_1, .int .i64 a0_2, .int .i64 a0_3, .int .i64 a0_4]] rfl (by (try simp only [List.map_toArray, List.map_cons, List.map_nil]); first | done | rfl | (simp only [List.length_drop, List.length_take]; rfl)) ?_; (with_reducible refine (impl_IsShade.calls a0_0 a0_1 a0_2 a0_3 a0_4 true _ A2.out).mono ?_); rintro e w18 ⟨rfl, hb⟩; refine ⟨_, rfl, ?_⟩; have n0_ := Aside0.mk (blk_below (g := gb129) (o := .cells #[.int .i64 a0_0, .string a0_1, .int .i64 a0_2, .int .i64 a0_3, .int .i64 a0_4] 26 (0, 0)) (by (with_reducible repeat (first | refine blk_drewN ?_ _ | refine blk_drew ?_ | refine blk_alloc ?_ _)); exact BK129.out) hb); have n1_ := Aside0.mk (below_step (by repeat (first | (with_reducible first | exact HB.out | apply below_alloc | apply pw_below_drewN | apply below_drew1 | refine below_set ?_ GE129.out) | exact HB.out)) hb); clear BK129; clear HB; have BK129 := n0_; have HB := n1_; clear n0_ n1_; (try clear hb); (try clear hb2); (try clear hk); (try clear hi)))
                    have n0_ := Aside0.mk (blk_drew BK129.out)
                    have n1_ := Aside0.mk (below_drew1 HB.out)
                    clear BK129
                    clear HB
                    have BK129 := n0_
                    have HB := n1_
                    clear n0_ n1_
                    refine start_ (n := 24) (S := fun w' => w'.cell? ⟨gb129, 0, none⟩ = some (.int .i64 a0_0) ∧ w'.cell? ⟨gb129, 1, none⟩ = some (.string a0_1) ∧ w'.cell? ⟨gb129, 2, none⟩ = some (.int .i64 a0_2) ∧ w'.cell? ⟨gb129, 3, none⟩ = some (.int .i64 a0_3) ∧ w'.cell? ⟨gb129, 4, none⟩ = some (.int .i64 a0_4)) (ds := []) #[false, false, false, false, false, false, false, false, false, false, false, false, false, false, false, false, false, false, false, false, false, false, false, false] (by kernel_rfl) rfl rfl ⟨(blk_cell BK129.out 0).trans rfl, (blk_cell BK129.out 1).trans rfl, (blk_cell BK129.out 2).trans rfl, (blk_cell BK129.out 3).trans rfl, (blk_cell BK129.out 4).trans rfl⟩ (fun hHeld => ?_); refine with_tabW impl_ShadeText.tab3 impl_ShadeText.bits3 (fun HT_ HW_ => ?_)
                    generalize w18.drew = w19 at BK129 HB hHeld ⊢
                    refine pure_ (i := 0) (N := some 7) (v := ?_) (a' := ?_) #[true, false, false, false, false, false, false, false, false, false, false, false, false, false, false, false, false, false, false, false, false, false, false, false] rfl rfl (any_of HT_.out (by kernel_rfl)) (fun _ _ _ h => h) (Or.inl ⟨by rfl, ?_⟩) ?_ ?_
                    rotate_left
                    · intro w'
                      go_simp
                      first
                        | with_reducible rfl
                        | (rw [if_neg (by simp only [ByteArray.size_append, zl3_0, zl3_1, zl3_2, zl3_3, ByteArray.size_extract] at *; omega)])
                    rotate_left
                    · simp only [Act.put, List.setIfInBounds_toArray, List.set_cons_zero, List.set_cons_succ, i64_w, i32_w]
                      rfl
                    refine pure_ (i := 4) (N := some 11) (v := ?_) (a' := ?_) #[true, false, false, false, true, false, false, false, false, false, false, false, false, false, false, false, false, false, false, false, false, false, false, false] rfl rfl (any_of HT_.out (by kernel_rfl)) (fun _ _ _ h => h) (Or.inl ⟨by rfl, ?_⟩) ?_ ?_
                    rotate_left
                    · intro w'
                      go_simp
                      first
                        | with_reducible rfl
                        | (rw [if_neg (by simp only [ByteArray.size_append, zl3_0, zl3_1, zl3_2, zl3_3, ByteArray.size_extract] at *; omega)])
                    rotate_left
                    · simp only [Act.put, List.setIfInBounds_toArray, List.set_cons_zero, List.set_cons_succ, i64_w, i32_w]
                      rfl
                    refine pure_ (i := 8) (N := some 15) (v := ?_) (a' := ?_) #[true, false, false, false, true, false, false, false, true, false, false, false, false, false, false, false, false, false, false, false, false, false, false, false] rfl rfl (any_of HT_.out (by kernel_rfl)) (fun _ _ _ h => h) (Or.inl ⟨by rfl, ?_⟩) ?_ ?_
                    rotate_left
                    · intro w'
                      go_simp
                      first
                        | with_reducible rfl
                        | (rw [if_neg (by simp only [ByteArray.size_append, zl3_0, zl3_1, zl3_2, zl3_3, ByteArray.size_extract] at *; omega)])
                    rotate_left
                    · simp only [Act.put, List.setIfInBounds_toArray, List.set_cons_zero, List.set_cons_succ, i64_w, i32_w]
                      rfl
                    refine pure_ (i := 13) (N := some 20) (v := ?_) (a' := ?_) #[true, false, false, false, true, false, false, false, true, false, false, false, false, true, false, false, false, false, false, false, false, false, false, false] rfl rfl (any_of HT_.out (by kernel_rfl)) (fun _ _ _ h => h) (Or.inl ⟨by rfl, ?_⟩) ?_ ?_
                    rotate_left
                    · intro w'
                      go_simp
                      first
                        | with_reducible rfl
                        | (rw [if_neg (by simp only [ByteArray.size_append, zl3_0, zl3_1, zl3_2, zl3_3, ByteArray.size_extract] at *; omega)])
                    rotate_left
                    · simp only [Act.put, List.setIfInBounds_toArray, List.set_cons_zero, List.set_cons_succ, i64_w, i32_w]
                      rfl
                    refine pure_ (i := 18) (N := some 25) (v := ?_) (a' := ?_) #[true, false, false, false, true, false, false, false, true, false, false, false, false, true, false, false, false, false, true, false, false, false, false, false] rfl rfl (any_of HT_.out (by kernel_rfl)) (fun _ _ _ h => h) (Or.inl ⟨by rfl, ?_⟩) ?_ ?_
                    rotate_left
                    · intro w'
                      go_simp
                      first
                        | with_reducible rfl
                        | (rw [if_neg (by simp only [ByteArray.size_append, zl3_0, zl3_1, zl3_2, zl3_3, ByteArray.size_extract] at *; omega)])
                    rotate_left
                    · simp only [Act.put, List.setIfInBounds_toArray, List.set_cons_zero, List.set_cons_succ, i64_w, i32_w]
                      rfl
                    refine take_ (i := 1) (N := some 8) (v := ?_) (a' := ?_) #[true, true, false, false, true, false, false, false, true, false, false, false, false, true, false, false, false, false, true, false, false, false, false, false] rfl rfl (take_ofW HT_.out HW_.out (by kernel_rfl)) (fun _ _ _ h => h) (Or.inl ⟨by rfl, ?_⟩) hHeld ?_ ?_
                    rotate_left
                    · rintro w' ⟨s0, s1, s2, s3, s4⟩
                      go_simp
                      with_reducible rfl
                    rotate_left
                    · simp only [Act.put, List.setIfInBounds_toArray, List.set_cons_zero, List.set_cons_succ, i64_w, i32_w]
                      rfl
                    refine take_ (i := 5) (N := some 12) (v := ?_) (a' := ?_) #[true, true, false, false, true, true, false, false, true, false, false, false, false, true, false, false, false, false, true, false, false, false, false, false] rfl rfl (take_ofW HT_.out HW_.out (by kernel_rfl)) (fun _ _ _ h => h) (Or.inl ⟨by rfl, ?_⟩) hHeld ?_ ?_
                    rotate_left
                    · rintro w' ⟨s0, s1, s2, s3, s4⟩
                      go_simp
                      with_reducible rfl
                    rotate_left
                    · simp only [Act.put, List.setIfInBounds_toArray, List.set_cons_zero, List.set_cons_succ, i64_w, i32_w]
                      rfl
                    refine take_ (i := 9) (N := some 16) (v := ?_) (a' := ?_) #[true, true, false, false, true, true, false, false, true, true, false, false, false, true, false, false, false, false, true, false, false, false, false, false] rfl rfl (take_ofW HT_.out HW_.out (by kernel_rfl)) (fun _ _ _ h => h) (Or.inl ⟨by rfl, ?_⟩) hHeld ?_ ?_
                    rotate_left
                    · rintro w' ⟨s0, s1, s2, s3, s4⟩
                      go_simp
                      with_reducible rfl
                    rotate_left
                    · simp only [Act.put, List.setIfInBounds_toArray, List.set_cons_zero, List.set_cons_succ, i64_w, i32_w]
                      rfl
                    refine take_ (i := 14) (N := some 21) (v := ?_) (a' := ?_) #[true, true, false, false, true, true, false, false, true, true, false, false, false, true, true, false, false, false, true, false, false, false, false, false] rfl rfl (take_ofW HT_.out HW_.out (by kernel_rfl)) (fun _ _ _ h => h) (Or.inl ⟨by rfl, ?_⟩) hHeld ?_ ?_
                    rotate_left
                    · rintro w' ⟨s0, s1, s2, s3, s4⟩
                      go_simp
                      with_reducible rfl
                    rotate_left
                    · simp only [Act.put, List.setIfInBounds_toArray, List.set_cons_zero, List.set_cons_succ, i64_w, i32_w]
                      rfl
                    refine take_ (i := 19) (N := some 26) (v := ?_) (a' := ?_) #[true, true, false, false, true, true, false, false, true, true, false, false, false, true, true, false, false, false, true, true, false, false, false, false] rfl rfl (take_ofW HT_.out HW_.out (by kernel_rfl)) (fun _ _ _ h => h) (Or.inl ⟨by rfl, ?_⟩) hHeld ?_ ?_
                    rotate_left
                    · rintro w' ⟨s0, s1, s2, s3, s4⟩
                      go_simp
                      with_reducible rfl
                    rotate_left
                    · simp only [Act.put, List.setIfInBounds_toArray, List.set_cons_zero, List.set_cons_succ, i64_w, i32_w]
                      rfl
                    refine one_ (i := 2) (N := some 9) #[true, true, true, false, true, true, false, false, true, true, false, false, false, true, true, false, false, false, true, true, false, false, false, false] rfl rfl (one_of HT_.out (by kernel_rfl)) (by decide) (fun K hK => ?_)
                    refine goes_ Tryd.func13 (by kernel_rfl) rfl #[.int .i64 a0_0] (by rfl) rfl rfl (by (try simp only [List.map_toArray, List.map_cons, List.map_nil]); first | done | rfl | (simp only [List.length_drop, List.length_take]; rfl)) ?_
                    with_reducible refine (impl_decimal.calls a0_0 t131 _ A4.out (TT_below HT.out (by repeat (first | (with_reducible first | exact HB.out | apply below_alloc | apply pw_below_drewN | apply below_drew1) | exact HB.out | exact Below.refl _ _)))).mono ?_
                    rintro e w20 ⟨rfl, hb⟩
                    refine ⟨_, rfl, ?_⟩
                    have n0_ := Aside0.mk (blk_below (g := gb129) (o := .cells #[.int .i64 a0_0, .string a0_1, .int .i64 a0_2, .int .i64 a0_3, .int .i64 a0_4] 26 (0, 0)) (by (with_reducible repeat (first | refine blk_drewN ?_ _ | refine blk_drew ?_ | refine blk_alloc ?_ _)); exact BK129.out) hb)
                    have n1_ := Aside0.mk (below_step (by repeat (first | (with_reducible first | exact HB.out | apply below_alloc | apply pw_below_drewN | apply below_drew1 | refine below_set ?_ GE129.out) | exact HB.out)) hb)
                    clear BK129
                    clear HB
                    have BK129 := n0_
                    have HB := n1_
                    clear n0_ n1_
                    (try clear hb)
                    (try clear hb2)
                    (try clear hk)
                    (try clear hi)
                    refine hK.out _ _ ⟨(blk_cell BK129.out 0).trans rfl, (blk_cell BK129.out 1).trans rfl, (blk_cell BK129.out 2).trans rfl, (blk_cell BK129.out 3).trans rfl, (blk_cell BK129.out 4).trans rfl⟩ (fun hHeld => ?_)
                    clear hK K
                    refine norm_ (a' := ?_) ?_ ?_
                    rotate_left
                    · show Act.put _ (some 9) _ = _
                      simp only [Act.put, List.setIfInBounds_toArray, List.set_cons_zero, List.set_cons_succ, i64_w, i32_w]
                      rfl
                    refine pure_ (i := 3) (N := some 10) (v := ?_) (a' := ?_) #[true, true, true, true, true, true, false, false, true, true, false, false, false, true, true, false, false, false, true, true, false, false, false, false] rfl rfl (any_of HT_.out (by kernel_rfl)) (fun _ _ _ h => h) (Or.inl ⟨by rfl, ?_⟩) ?_ ?_
                    rotate_left
                    · intro w'
                      go_simp
                      first
                        | with_reducible rfl
                        | (rw [if_neg (by simp only [ByteArray.size_append, zl3_0, zl3_1, zl3_2, zl3_3, ByteArray.size_extract] at *; omega)])
                    rotate_left
                    · simp only [Act.put, List.setIfInBounds_toArray, List.set_cons_zero, List.set_cons_succ, i64_w, i32_w]
                      rfl
                    refine pure_ (i := 6) (N := some 13) (v := ?_) (a' := ?_) #[true, true, true, true, true, true, true, false, true, true, false, false, false, true, true, false, false, false, true, true, false, false, false, false] rfl rfl (any_of HT_.out (by kernel_rfl)) (fun _ _ _ h => h) (Or.inl ⟨by rfl, ?_⟩) ?_ ?_
                    rotate_left
                    · intro w'
                      go_simp
                      first
                        | with_reducible rfl
                        | (rw [if_neg (by simp only [ByteArray.size_append, zl3_0, zl3_1, zl3_2, zl3_3, ByteArray.size_extract] at *; omega)])
                    rotate_left
                    · simp only [Act.put, List.setIfInBounds_toArray, List.set_cons_zero, List.set_cons_succ, i64_w, i32_w]
                      rfl
                    refine pure_ (i := 7) (N := some 14) (v := ?_) (a' := ?_) #[true, true, true, true, true, true, true, true, true, true, false, false, false, true, true, false, false, false, true, true, false, false, false, false] rfl rfl (any_of HT_.out (by kernel_rfl)) (fun _ _ _ h => h) (Or.inl ⟨by rfl, ?_⟩) ?_ ?_
                    rotate_left
                    · intro w'
                      go_simp
                      first
                        | with_reducible rfl
                        | (rw [if_neg (by simp only [ByteArray.size_append, zl3_0, zl3_1, zl3_2, zl3_3, ByteArray.size_extract] at *; omega)])
                    rotate_left
                    · simp only [Act.put, List.setIfInBounds_toArray, List.set_cons_zero, List.set_cons_succ, i64_w, i32_w]
                      rfl
                    refine one_ (i := 10) (N := some 17) #[true, true, true, true, true, true, true, true, true, true, true, false, false, true, true, false, false, false, true, true, false, false, false, false] rfl rfl (one_of HT_.out (by kernel_rfl)) (by decide) (fun K hK => ?_)
                    refine goes_ Tryd.func13 (by kernel_rfl) rfl #[.int .i64 a0_2] (by rfl) rfl rfl (by (try simp only [List.map_toArray, List.map_cons, List.map_nil]); first | done | rfl | (simp only [List.length_drop, List.length_take]; rfl)) ?_
                    with_reducible refine (impl_decimal.calls a0_2 t132 _ A8.out (TT_below HT.out (by repeat (first | (with_reducible first | exact HB.out | apply below_alloc | apply pw_below_drewN | apply below_drew1) | exact HB.out | exact Below.refl _ _)))).mono ?_
                    rintro e w21 ⟨rfl, hb⟩
                    refine ⟨_, rfl, ?_⟩
                    have n0_ := Aside0.mk (blk_below (g := gb129) (o := .cells #[.int .i64 a0_0, .string a0_1, .int .i64 a0_2, .int .i64 a0_3, .int .i64 a0_4] 26 (0, 0)) (by (with_reducible repeat (first | refine blk_drewN ?_ _ | refine blk_drew ?_ | refine blk_alloc ?_ _)); exact BK129.out) hb)
                    have n1_ := Aside0.mk (below_step (by repeat (first | (with_reducible first | exact HB.out | apply below_alloc | apply pw_below_drewN | apply below_drew1 | refine below_set ?_ GE129.out) | exact HB.out)) hb)
                    clear BK129
                    clear HB
                    have BK129 := n0_
                    have HB := n1_
                    clear n0_ n1_
                    (try clear hb)
                    (try clear hb2)
                    (try clear hk)
                    (try clear hi)
                    refine hK.out _ _ ⟨(blk_cell BK129.out 0).trans rfl, (blk_cell BK129.out 1).trans rfl, (blk_cell BK129.out 2).trans rfl, (blk_cell BK129.out 3).trans rfl, (blk_cell BK129.out 4).trans rfl⟩ (fun hHeld => ?_)
                    clear hK K
                    refine norm_ (a' := ?_) ?_ ?_
                    rotate_left
                    · show Act.put _ (some 17) _ = _
                      simp only [Act.put, List.setIfInBounds_toArray, List.set_cons_zero, List.set_cons_succ, i64_w, i32_w]
                      rfl
                    refine pure_ (i := 11) (N := some 18) (v := ?_) (a' := ?_) #[true, true, true, true, true, true, true, true, true, true, true, true, false, true, true, false, false, false, true, true, false, false, false, false] rfl rfl (any_of HT_.out (by kernel_rfl)) (fun _ _ _ h => h) (Or.inl ⟨by rfl, ?_⟩) ?_ ?_
                    rotate_left
                    · intro w'
                      go_simp
                      first
                        | with_reducible rfl
                        | (rw [if_neg (by simp only [ByteArray.size_append, zl3_0, zl3_1, zl3_2, zl3_3, ByteArray.size_extract] at *; omega)])
                    rotate_left
                    · simp only [Act.put, List.setIfInBounds_toArray, List.set_cons_zero, List.set_cons_succ, i64_w, i32_w]
                      rfl
                    refine pure_ (i := 12) (N := some 19) (v := ?_) (a' := ?_) #[true, true, true, true, true, true, true, true, true, true, true, true, true, true, true, false, false, false, true, true, false, false, false, false] rfl rfl (any_of HT_.out (by kernel_rfl)) (fun _ _ _ h => h) (Or.inl ⟨by rfl, ?_⟩) ?_ ?_
                    rotate_left
                    · intro w'
                      go_simp
                      first
                        | with_reducible rfl
                        | (rw [if_neg (by simp only [ByteArray.size_append, zl3_0, zl3_1, zl3_2, zl3_3, ByteArray.size_extract] at *; omega)])
                    rotate_left
                    · simp only [Act.put, List.setIfInBounds_toArray, List.set_cons_zero, List.set_cons_succ, i64_w, i32_w]
                      rfl
                    refine one_ (i := 15) (N := some 22) #[true, true, true, true, true, true, true, true, true, true, true, true, true, true, true, true, false, false, true, true, false, false, false, false] rfl rfl (one_of HT_.out (by kernel_rfl)) (by decide) (fun K hK => ?_)
                    refine goes_ Tryd.func13 (by kernel_rfl) rfl #[.int .i64 a0_3] (by rfl) rfl rfl (by (try simp only [List.map_toArray, List.map_cons, List.map_nil]); first | done | rfl | (simp only [List.length_drop, List.length_take]; rfl)) ?_
                    with_reducible refine (impl_decimal.calls a0_3 t133 _ A11.out (TT_below HT.out (by repeat (first | (with_reducible first | exact HB.out | apply below_alloc | apply pw_below_drewN | apply below_drew1) | exact HB.out | exact Below.refl _ _)))).mono ?_
                    rintro e w22 ⟨rfl, hb⟩
                    refine ⟨_, rfl, ?_⟩
                    have n0_ := Aside0.mk (blk_below (g := gb129) (o := .cells #[.int .i64 a0_0, .string a0_1, .int .i64 a0_2, .int .i64 a0_3, .int .i64 a0_4] 26 (0, 0)) (by (with_reducible repeat (first | refine blk_drewN ?_ _ | refine blk_drew ?_ | refine blk_alloc ?_ _)); exact BK129.out) hb)
                    have n1_ := Aside0.mk (below_step (by repeat (first | (with_reducible first | exact HB.out | apply below_alloc | apply pw_below_drewN | apply below_drew1 | refine below_set ?_ GE129.out) | exact HB.out)) hb)
                    clear BK129
                    clear HB
                    have BK129 := n0_
                    have HB := n1_
                    clear n0_ n1_
                    (try clear hb)
                    (try clear hb2)
                    (try clear hk)
                    (try clear hi)
                    refine hK.out _ _ ⟨(blk_cell BK129.out 0).trans rfl, (blk_cell BK129.out 1).trans rfl, (blk_cell BK129.out 2).trans rfl, (blk_cell BK129.out 3).trans rfl, (blk_cell BK129.out 4).trans rfl⟩ (fun hHeld => ?_)
                    clear hK K
                    refine norm_ (a' := ?_) ?_ ?_
                    rotate_left
                    · show Act.put _ (some 22) _ = _
                      simp only [Act.put, List.setIfInBounds_toArray, List.set_cons_zero, List.set_cons_succ, i64_w, i32_w]
                      rfl
                    refine pure_ (i := 16) (N := some 23) (v := ?_) (a' := ?_) #[true, true, true, true, true, true, true, true, true, true, true, true, true, true, true, true, true, false, true, true, false, false, false, false] rfl rfl (any_of HT_.out (by kernel_rfl)) (fun _ _ _ h => h) (Or.inl ⟨by rfl, ?_⟩) ?_ ?_
                    rotate_left
                    · intro w'
                      go_simp
                      first
                        | with_reducible rfl
                        | (rw [if_neg (by simp only [ByteArray.size_append, zl3_0, zl3_1, zl3_2, zl3_3, ByteArray.size_extract] at *; omega)])
                    rotate_left
                    · simp only [Act.put, List.setIfInBounds_toArray, List.set_cons_zero, List.set_cons_succ, i64_w, i32_w]
                      rfl
                    refine pure_ (i := 17) (N := some 24) (v := ?_) (a' := ?_) #[true, true, true, true, true, true, true, true, true, true, true, true, true, true, true, true, true, true, true, true, false, false, false, false] rfl rfl (any_of HT_.out (by kernel_rfl)) (fun _ _ _ h => h) (Or.inl ⟨by rfl, ?_⟩) ?_ ?_
                    rotate_left
                    · intro w'
                      go_simp
                      first
                        | with_reducible rfl
                        | (rw [if_neg (by simp only [ByteArray.size_append, zl3_0, zl3_1, zl3_2, zl3_3, ByteArray.size_extract] at *; omega)])
                    rotate_left
                    · simp only [Act.put, List.setIfInBounds_toArray, List.set_cons_zero, List.set_cons_succ, i64_w, i32_w]
                      rfl
                    refine one_ (i := 20) (N := some 27) #[true, true, true, true, true, true, true, true, true, true, true, true, true, true, true, true, true, true, true, true, true, false, false, false] rfl rfl (one_of HT_.out (by kernel_rfl)) (by decide) (fun K hK => ?_)
                    refine goes_ Tryd.func13 (by kernel_rfl) rfl #[.int .i64 a0_4] (by rfl) rfl rfl (by (try simp only [List.map_toArray, List.map_cons, List.map_nil]); first | done | rfl | (simp only [List.length_drop, List.length_take]; rfl)) ?_
                    with_reducible refine (impl_decimal.calls a0_4 t134 _ A14.out (TT_below HT.out (by repeat (first | (with_reducible first | exact HB.out | apply below_alloc | apply pw_below_drewN | apply below_drew1) | exact HB.out | exact Below.refl _ _)))).mono ?_
                    rintro e w23 ⟨rfl, hb⟩
                    refine ⟨_, rfl, ?_⟩
                    have n0_ := Aside0.mk (blk_below (g := gb129) (o := .cells #[.int .i64 a0_0, .string a0_1, .int .i64 a0_2, .int .i64 a0_3, .int .i64 a0_4] 26 (0, 0)) (by (with_reducible repeat (first | refine blk_drewN ?_ _ | refine blk_drew ?_ | refine blk_alloc ?_ _)); exact BK129.out) hb)
                    have n1_ := Aside0.mk (below_step (by repeat (first | (with_reducible first | exact HB.out | apply below_alloc | apply pw_below_drewN | apply below_drew1 | refine below_set ?_ GE129.out) | exact HB.out)) hb)
                    clear BK129
                    clear HB
                    have BK129 := n0_
                    have HB := n1_
                    clear n0_ n1_
                    (try clear hb)
                    (try clear hb2)
                    (try clear hk)
                    (try clear hi)
                    refine hK.out _ _ ⟨(blk_cell BK129.out 0).trans rfl, (blk_cell BK129.out 1).trans rfl, (blk_cell BK129.out 2).trans rfl, (blk_cell BK129.out 3).trans rfl, (blk_cell BK129.out 4).trans rfl⟩ (fun hHeld => ?_)
                    clear hK K
                    refine norm_ (a' := ?_) ?_ ?_
                    rotate_left
                    · show Act.put _ (some 27) _ = _
                      simp only [Act.put, List.setIfInBounds_toArray, List.set_cons_zero, List.set_cons_succ, i64_w, i32_w]
                      rfl
                    refine pure_ (i := 21) (N := some 28) (v := ?_) (a' := ?_) #[true, true, true, true, true, true, true, true, true, true, true, true, true, true, true, true, true, true, true, true, true, true, false, false] rfl rfl (any_of HT_.out (by kernel_rfl)) (fun _ _ _ h => h) (Or.inl ⟨by rfl, ?_⟩) ?_ ?_
                    rotate_left
                    · intro w'
                      go_simp
                      first
                        | with_reducible rfl
                        | (rw [if_neg (by simp only [ByteArray.size_append, zl3_0, zl3_1, zl3_2, zl3_3, ByteArray.size_extract] at *; omega)])
                    rotate_left
                    · simp only [Act.put, List.setIfInBounds_toArray, List.set_cons_zero, List.set_cons_succ, i64_w, i32_w]
                      rfl
                    refine pure_ (i := 22) (N := some 2) (v := ?_) (a' := ?_) #[true, true, true, true, true, true, true, true, true, true, true, true, true, true, true, true, true, true, true, true, true, true, true, false] rfl rfl (any_of HT_.out (by kernel_rfl)) (fun _ _ _ h => h) (Or.inl ⟨by rfl, ?_⟩) ?_ ?_
                    rotate_left
                    · intro w'
                      go_simp
                      first
                        | with_reducible rfl
                        | (rw [if_neg (by simp only [ByteArray.size_append, zl3_0, zl3_1, zl3_2, zl3_3, ByteArray.size_extract] at *; omega)])
                    rotate_left
                    · simp only [Act.put, List.setIfInBounds_toArray, List.set_cons_zero, List.set_cons_succ, i64_w, i32_w]
                      rfl
                    refine pure_ (i := 23) (N := some 3) (v := ?_) (a' := ?_) #[true, true, true, true, true, true, true, true, true, true, true, true, true, true, true, true, true, true, true, true, true, true, true, true] rfl rfl (any_of HT_.out (by kernel_rfl)) (fun _ _ _ h => h) (Or.inl ⟨by rfl, ?_⟩) ?_ ?_
                    rotate_left
                    · intro w'
                      go_simp
                      first
                        | with_reducible rfl
                        | (rw [if_neg (by simp only [ByteArray.size_append, zl3_0, zl3_1, zl3_2, zl3_3, ByteArray.size_extract] at *; omega)])
                    rotate_left
                    · simp only [Act.put, List.setIfInBounds_toArray, List.set_cons_zero, List.set_cons_succ, i64_w, i32_w]
                      rfl
                    refine done_ (done_of HT_.out (by kernel_rfl)) ?_
                    try go_wp2
                    go_ret2
                    exact ⟨by first | rfl | (simp [errW_none, errW_some] <;> rfl) | (simp [*, errW_none, errW_some] <;> rfl), by repeat (first | (with_reducible first | exact HB.out | apply below_alloc | apply pw_below_drewN | apply below_drew1 | refine below_set ?_ GE129.out) | exact HB.out)⟩
                  · rw [if_neg c15] at H
                    exact absurd H (by simp)
                · rw [if_neg c13] at H
                  exact absurd H (by simp)
              · rw [if_neg c12] at H
                exact absurd H (by simp)
            · rw [if_neg c10] at H
              exact absurd H (by simp)
          · rw [if_neg c9] at H
            exact absurd H (by simp)
        · rw [if_neg c7] at H
          exact absurd H (by simp)
      · rw [if_neg c6] at H
        exact absurd H (by simp)
    · rw [if_neg c5] at H
      exact absurd H (by simp)
  · replace c3 := Bool.eq_false_iff.mpr c3
    subst c3
    have H1 : (some ((⟨#[]⟩ : ByteArray), false)) = some (r1, r2) := by rw [if_neg (show ¬ (false = true) by decide)] at H; exact H
    clear H
    have H := H1
    clear H1
    simp only [Option.some.injEq, Prod.mk.injEq] at H
    obtain ⟨rfl, rfl⟩ := H
    go_enter Tryd.func20, Tryd.ntmps20
    go_wp2_with (first | ((with_reducible refine gate_dst (N := 1) rfl ?_); refine box_event ?hg (N := 1) ?hd (cs := #[.int .i64 a0_0, .string a0_1, .int .i64 a0_2, .int .i64 a0_3, .int .i64 a0_4]) (t := 26) ?hr ?_; (case hd => rfl); (case hg => rfl); (case hr => first | (go_simp; done) | (go_simp; rfl)); intro gb129 hg w24 hbox hb; have n0_ := Aside0.mk (below_step (by repeat (first | (with_reducible first | exact HB.out | apply below_alloc | apply pw_below_drewN | apply below_drew1) | exact HB.out)) hb); have n1_ := Aside0.mk (hbox); have n2_ := Aside0.mk ((by rw [hg]; exact (below_size (by repeat (first | (with_reducible first | exact HB.out | apply below_alloc | apply pw_below_drewN | apply below_drew1) | exact HB.out))) : w.heap.size ≤ gb129)); have n3_ := Aside0.mk ((by rw [hg]; exact (below_size (by repeat (first | (with_reducible first | exact HB.out | apply below_alloc | apply pw_below_drewN | apply below_drew1) | exact HB.out))) : w.heap.size ≤ gb129)); clear HB; have HB := n0_; have BK129 := n1_; have GW129 := n2_; have GE129 := n3_; clear n0_ n1_ n2_ n3_; clear hb hbox hg; have hcz25_0 : w24.cell? ⟨gb129, 0, none⟩ = some (.int .i64 a0_0) := (blk_cell BK129.out 0).trans rfl; have hcz25_1 : w24.cell? ⟨gb129, 1, none⟩ = some (.string a0_1) := (blk_cell BK129.out 1).trans rfl; have hcz25_2 : w24.cell? ⟨gb129, 2, none⟩ = some (.int .i64 a0_2) := (blk_cell BK129.out 2).trans rfl; have hcz25_3 : w24.cell? ⟨gb129, 3, none⟩ = some (.int .i64 a0_3) := (blk_cell BK129.out 3).trans rfl; have hcz25_4 : w24.cell? ⟨gb129, 4, none⟩ = some (.int .i64 a0_4) := (blk_cell BK129.out 4).trans rfl; have hfz25_0 := blk_frozen BK129.out 0; have hfz25_1 := blk_frozen BK129.out 1; have hfz25_2 := blk_frozen BK129.out 2; have hfz25_3 := blk_frozen BK129.out 3; have hfz25_4 := blk_frozen BK129.out 4) | ((with_reducible refine gate_callee (f := 31) rfl ?_); refine goesL_ (some 5) rfl rfl Tryd.func31 (by kernel_rfl) rfl #[.agg #[.int .i64 a0_0, .string a0_1, .int .i64 a0_2, .int .i64 a0_3, .int .i64 a0_4]] rfl (by (try simp only [List.map_toArray, List.map_cons, List.map_nil]); first | done | rfl | (simp only [List.length_drop, List.length_take]; rfl)) ?_; (with_reducible refine (impl_IsShade.calls a0_0 a0_1 a0_2 a0_3 a0_4 false _ A2.out).mono ?_); rintro e w26 ⟨rfl, hb⟩; refine ⟨_, rfl, ?_⟩; have n0_ := Aside0.mk (blk_below (g := gb129) (o := .cells #[.int .i64 a0_0, .string a0_1, .int .i64 a0_2, .int .i64 a0_3, .int .i64 a0_4] 26 (0, 0)) (by (with_reducible repeat (first | refine blk_drewN ?_ _ | refine blk_drew ?_ | refine blk_alloc ?_ _)); exact BK129.out) hb); have n1_ := Aside0.mk (below_step (by repeat (first | (with_reducible first | exact HB.out | apply below_alloc | apply pw_below_drewN | apply below_drew1 | refine below_set ?_ GE129.out) | exact HB.out)) hb); clear BK129; clear HB; have BK129 := n0_; have HB := n1_; clear n0_ n1_; (try clear hb); (try clear hb2); (try clear hk); (try clear hi)))
    go_ret2
    exact ⟨by first | rfl | (simp [errW_none, errW_some] <;> rfl) | (simp [*, errW_none, errW_some] <;> rfl), by repeat (first | (with_reducible first | exact HB.out | apply below_alloc | apply pw_below_drewN | apply below_drew1 | refine below_set ?_ GE129.out) | exact HB.out)⟩

/-! ### spec_l1In: function 21 -/
def spec_l1In.f (a0 : Int) (a1 : Int) (a2 : Int) : Option (Bool) := if a0 ≥ a1 then (some (decide (a0 ≤ a2))) else (some false)
set_option maxHeartbeats 8000000 in
set_option maxRecDepth 100000 in
theorem spec_l1In.calls (a0 : Int) (a1 : Int) (a2 : Int) (r : Bool) (w : World) (h : spec_l1In.f a0 a1 a2 = some r) :
    Calls Tryd.prog 21 #[.int .i64 a0, .int .i64 a1, .int .i64 a2] w fun e w' => e = .returned (.bool r) ∧ Drawn0 w w' := by
  have H : (if a0 ≥ a1 then (some (decide (a0 ≤ a2))) else (some false)) = some r := h
  clear h
  by_cases c4 : a0 ≥ a1
  · rw [if_pos c4] at H
    have c4b0 : decide (a1 ≤ a0) = true := decide_eq_true c4
    clear c4
    obtain rfl := Option.some.inj H
    go_enter Tryd.func21, Tryd.ntmps21
    go_wp2
    go_ret
    exact ⟨by first | rfl | (simp; done) | (simp [*]; done), by repeat (first | exact Drawn0.refl _ | apply Drawn0.step)⟩
  · rw [if_neg c4] at H
    have c4b0 : decide (a1 ≤ a0) = false := decide_eq_false c4
    clear c4
    obtain rfl := Option.some.inj H
    go_enter Tryd.func21, Tryd.ntmps21
    go_wp2
    go_ret
    exact ⟨by first | rfl | (simp; done) | (simp [*]; done), by repeat (first | exact Drawn0.refl _ | apply Drawn0.step)⟩

end Go.Proofs.YthcgeejoocpbmaaDoor.G
