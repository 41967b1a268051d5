-- Printed by a program of this session (wip/tools/gp.sh); Lean checks it.
import Derived.Test.YthcgeejoocpbmaaDoorGx0
import Derived.Test.YthcgeejoocpbmaaDoorGx4
namespace Go.Proofs.YthcgeejoocpbmaaDoor.G
open Go.RowKit Go.Proofs.YthcgeejoocpbmaaDoorW.PrintWords Go.Proofs.YthcgeejoocpbmaaDoorW.PrintLast Go.Proofs.YthcgeejoocpbmaaDoorW.PrintMore
attribute [local go_sem] isSome_setCell_ max2_int min2_int max_two min_two max_three min_three max_four min_four   -- for this text's walks alone
set_option linter.unusedVariables false
set_option linter.unusedSimpArgs false
-- zlits
theorem zl8_0 : (⟨#[32, 97, 116, 32]⟩ : ByteArray).size = 4 := rfl
theorem zl8_1 : (⟨#[32]⟩ : ByteArray).size = 1 := rfl
theorem zl8_2 : (⟨#[44, 32, 100, 101, 112, 116, 104, 32]⟩ : ByteArray).size = 8 := rfl
theorem zl8_3 : (⟨#[44, 32, 102, 97, 115, 116, 32]⟩ : ByteArray).size = 7 := rfl

/-! ### spec_l3Text: function 16 -/
def spec_l3Text.f (k : Nat) (a0_0 : Int) (a0_1 : ByteArray) (a0_2 : Int) (a0_3 : Int) (a0_4 : Int) : Option (ByteArray) := (spec_l1Num.f k a0_0).bind fun t159 => (if t159.size + 1 ≤ 9223372036854775807 then (if (t159 ++ (⟨#[32]⟩ : ByteArray)).size + a0_1.size ≤ 9223372036854775807 then (if ((t159 ++ (⟨#[32]⟩ : ByteArray)) ++ a0_1).size + 4 ≤ 9223372036854775807 then ((spec_l1Num.f k a0_2).bind fun t160 => (if (((t159 ++ (⟨#[32]⟩ : ByteArray)) ++ a0_1) ++ (⟨#[32, 97, 116, 32]⟩ : ByteArray)).size + t160.size ≤ 9223372036854775807 then (if ((((t159 ++ (⟨#[32]⟩ : ByteArray)) ++ a0_1) ++ (⟨#[32, 97, 116, 32]⟩ : ByteArray)) ++ t160).size + 8 ≤ 9223372036854775807 then ((spec_l1Num.f k a0_3).bind fun t161 => (if (((((t159 ++ (⟨#[32]⟩ : ByteArray)) ++ a0_1) ++ (⟨#[32, 97, 116, 32]⟩ : ByteArray)) ++ t160) ++ (⟨#[44, 32, 100, 101, 112, 116, 104, 32]⟩ : ByteArray)).size + t161.size ≤ 9223372036854775807 then (if ((((((t159 ++ (⟨#[32]⟩ : ByteArray)) ++ a0_1) ++ (⟨#[32, 97, 116, 32]⟩ : ByteArray)) ++ t160) ++ (⟨#[44, 32, 100, 101, 112, 116, 104, 32]⟩ : ByteArray)) ++ t161).size + 7 ≤ 9223372036854775807 then ((spec_l1Num.f k a0_4).bind fun t162 => (if (((((((t159 ++ (⟨#[32]⟩ : ByteArray)) ++ a0_1) ++ (⟨#[32, 97, 116, 32]⟩ : ByteArray)) ++ t160) ++ (⟨#[44, 32, 100, 101, 112, 116, 104, 32]⟩ : ByteArray)) ++ t161) ++ (⟨#[44, 32, 102, 97, 115, 116, 32]⟩ : ByteArray)).size + t162.size ≤ 9223372036854775807 then (some ((((((((t159 ++ (⟨#[32]⟩ : ByteArray)) ++ a0_1) ++ (⟨#[32, 97, 116, 32]⟩ : ByteArray)) ++ t160) ++ (⟨#[44, 32, 100, 101, 112, 116, 104, 32]⟩ : ByteArray)) ++ t161) ++ (⟨#[44, 32, 102, 97, 115, 116, 32]⟩ : ByteArray)) ++ t162)) else (none))) else (none)) else (none))) else (none)) else (none))) else (none)) else (none)) else (none))
theorem spec_l3Text.mono : ∀ a0 a1 a2 a3 a4 k, LeO (spec_l3Text.f k a0 a1 a2 a3 a4) (spec_l3Text.f (k + 1) a0 a1 a2 a3 a4) := by
  intro a0 a1 a2 a3 a4 k
  unfold spec_l3Text.f
  repeat' first
      | (with_reducible exact spec_l1Num.mono _ _)
      | (with_reducible exact LeO.refl _)
      | (with_reducible exact LeO.none _)
      | (with_reducible refine LeO.ite ?_ ?_)
      | (with_reducible refine LeO.bind ?_ (fun _ => ?_))
      | exact spec_l1Num.mono _ _
      | exact LeO.none _
      | refine LeO.ite ?_ ?_
      | refine LeO.bind ?_ (fun _ => ?_)
def spec_l3Text.T1 : Bool × List (List Nat × List Nat) := (true, [([], []), ([0], [0]), ([1], [1]), ([2], [2]), ([], []), ([4], [4]), ([3, 5], [3, 5]), ([6], [6]), ([], []), ([8], [8]), ([9, 2], [9]), ([7, 10], [7, 10]), ([11], [11]), ([], []), ([13], [13]), ([14, 10], [14]), ([12, 15], [12, 15]), ([16], [16]), ([], []), ([18], [18]), ([19, 15], [19]), ([17, 20], [17, 20]), ([21, 20, 0, 1, 2, 3, 4, 5, 6, 7, 8, 9, 10, 11, 12, 13, 14, 15, 16, 17, 18, 19, 20, 21], [21])])
def spec_l3Text.B1 : List Nat := [0, 1, 3, 7, 0, 16, 63, 127, 0, 256, 775, 2047, 4095, 0, 8192, 26375, 65535, 131071, 0, 262144, 845575, 2097151, 4194303]
theorem spec_l3Text.tab1 : rtab .any (opsOf Tryd.f16 1) = spec_l3Text.T1 := by kernel_rfl
theorem spec_l3Text.bits1 : waitsOk spec_l3Text.T1.2 spec_l3Text.B1 = true := by kernel_rfl
set_option maxHeartbeats 8000000 in
set_option maxRecDepth 100000 in
theorem spec_l3Text.calls (k : Nat) (a0_0 : Int) (a0_1 : ByteArray) (a0_2 : Int) (a0_3 : Int) (a0_4 : Int) (r : ByteArray) (w : World) (h : spec_l3Text.f k a0_0 a0_1 a0_2 a0_3 a0_4 = some r) :
    Calls Tryd.prog 16 #[.agg #[.int .i64 a0_0, .string a0_1, .int .i64 a0_2, .int .i64 a0_3, .int .i64 a0_4]] w fun e w' => e = .returned (.string r) ∧ Below w.heap.size w w' := by
  have hu26 := Tryd.underlying26
  have HB := Aside0.mk (Below.refl w.heap.size w)
  have H : ((spec_l1Num.f k a0_0).bind fun t159 => (if t159.size + 1 ≤ 9223372036854775807 then (if (t159 ++ (⟨#[32]⟩ : ByteArray)).size + a0_1.size ≤ 9223372036854775807 then (if ((t159 ++ (⟨#[32]⟩ : ByteArray)) ++ a0_1).size + 4 ≤ 9223372036854775807 then ((spec_l1Num.f k a0_2).bind fun t160 => (if (((t159 ++ (⟨#[32]⟩ : ByteArray)) ++ a0_1) ++ (⟨#[32, 97, 116, 32]⟩ : ByteArray)).size + t160.size ≤ 9223372036854775807 then (if ((((t159 ++ (⟨#[32]⟩ : ByteArray)) ++ a0_1) ++ (⟨#[32, 97, 116, 32]⟩ : ByteArray)) ++ t160).size + 8 ≤ 9223372036854775807 then ((spec_l1Num.f k a0_3).bind fun t161 => (if (((((t159 ++ (⟨#[32]⟩ : ByteArray)) ++ a0_1) ++ (⟨#[32, 97, 116, 32]⟩ : ByteArray)) ++ t160) ++ (⟨#[44, 32, 100, 101, 112, 116, 104, 32]⟩ : ByteArray)).size + t161.size ≤ 9223372036854775807 then (if ((((((t159 ++ (⟨#[32]⟩ : ByteArray)) ++ a0_1) ++ (⟨#[32, 97, 116, 32]⟩ : ByteArray)) ++ t160) ++ (⟨#[44, 32, 100, 101, 112, 116, 104, 32]⟩ : ByteArray)) ++ t161).size + 7 ≤ 9223372036854775807 then ((spec_l1Num.f k a0_4).bind fun t162 => (if (((((((t159 ++ (⟨#[32]⟩ : ByteArray)) ++ a0_1) ++ (⟨#[32, 97, 116, 32]⟩ : ByteArray)) ++ t160) ++ (⟨#[44, 32, 100, 101, 112, 116, 104, 32]⟩ : ByteArray)) ++ t161) ++ (⟨#[44, 32, 102, 97, 115, 116, 32]⟩ : ByteArray)).size + t162.size ≤ 9223372036854775807 then (some ((((((((t159 ++ (⟨#[32]⟩ : ByteArray)) ++ a0_1) ++ (⟨#[32, 97, 116, 32]⟩ : ByteArray)) ++ t160) ++ (⟨#[44, 32, 100, 101, 112, 116, 104, 32]⟩ : ByteArray)) ++ t161) ++ (⟨#[44, 32, 102, 97, 115, 116, 32]⟩ : ByteArray)) ++ t162)) else (none))) else (none)) else (none))) else (none)) else (none))) else (none)) else (none)) else (none))) = some r := h
  clear h
  replace H := Option.bind_eq_some_iff.mp H
  obtain ⟨t159, A20, H⟩ := H
  replace H : (if t159.size + 1 ≤ 9223372036854775807 then (if (t159 ++ (⟨#[32]⟩ : ByteArray)).size + a0_1.size ≤ 9223372036854775807 then (if ((t159 ++ (⟨#[32]⟩ : ByteArray)) ++ a0_1).size + 4 ≤ 9223372036854775807 then ((spec_l1Num.f k a0_2).bind fun t160 => (if (((t159 ++ (⟨#[32]⟩ : ByteArray)) ++ a0_1) ++ (⟨#[32, 97, 116, 32]⟩ : ByteArray)).size + t160.size ≤ 9223372036854775807 then (if ((((t159 ++ (⟨#[32]⟩ : ByteArray)) ++ a0_1) ++ (⟨#[32, 97, 116, 32]⟩ : ByteArray)) ++ t160).size + 8 ≤ 9223372036854775807 then ((spec_l1Num.f k a0_3).bind fun t161 => (if (((((t159 ++ (⟨#[32]⟩ : ByteArray)) ++ a0_1) ++ (⟨#[32, 97, 116, 32]⟩ : ByteArray)) ++ t160) ++ (⟨#[44, 32, 100, 101, 112, 116, 104, 32]⟩ : ByteArray)).size + t161.size ≤ 9223372036854775807 then (if ((((((t159 ++ (⟨#[32]⟩ : ByteArray)) ++ a0_1) ++ (⟨#[32, 97, 116, 32]⟩ : ByteArray)) ++ t160) ++ (⟨#[44, 32, 100, 101, 112, 116, 104, 32]⟩ : ByteArray)) ++ t161).size + 7 ≤ 9223372036854775807 then ((spec_l1Num.f k a0_4).bind fun t162 => (if (((((((t159 ++ (⟨#[32]⟩ : ByteArray)) ++ a0_1) ++ (⟨#[32, 97, 116, 32]⟩ : ByteArray)) ++ t160) ++ (⟨#[44, 32, 100, 101, 112, 116, 104, 32]⟩ : ByteArray)) ++ t161) ++ (⟨#[44, 32, 102, 97, 115, 116, 32]⟩ : ByteArray)).size + t162.size ≤ 9223372036854775807 then (some ((((((((t159 ++ (⟨#[32]⟩ : ByteArray)) ++ a0_1) ++ (⟨#[32, 97, 116, 32]⟩ : ByteArray)) ++ t160) ++ (⟨#[44, 32, 100, 101, 112, 116, 104, 32]⟩ : ByteArray)) ++ t161) ++ (⟨#[44, 32, 102, 97, 115, 116, 32]⟩ : ByteArray)) ++ t162)) else (none))) else (none)) else (none))) else (none)) else (none))) else (none)) else (none)) else (none)) = some r := H
  have A2 := Aside0.mk A20
  clear A20
  by_cases c3 : t159.size + 1 ≤ 9223372036854775807
  · rw [if_pos c3] at H
    have c3b0 := eq_true c3
    have c3b1 : decide (t159.size + 1 ≤ 9223372036854775807) = true := decide_eq_true c3
    try have c3b2 : (9223372036854775807 < t159.size + 1) = False := eq_false (Nat.not_lt.2 c3)
    by_cases c4 : (t159 ++ (⟨#[32]⟩ : ByteArray)).size + a0_1.size ≤ 9223372036854775807
    · rw [if_pos c4] at H
      have c4b0 := eq_true c4
      have c4b1 : decide ((t159 ++ (⟨#[32]⟩ : ByteArray)).size + a0_1.size ≤ 9223372036854775807) = true := decide_eq_true c4
      try (have c4b1z := c4b1; simp only [ByteArray.size_append, zl8_0, zl8_1, zl8_2, zl8_3, Int.natCast_add] at c4b1z; try push_cast at c4b1z)
      try have c4b2 : (9223372036854775807 < (t159 ++ (⟨#[32]⟩ : ByteArray)).size + a0_1.size) = False := eq_false (Nat.not_lt.2 c4)
      try (have c4b2z := c4b2; simp only [ByteArray.size_append, zl8_0, zl8_1, zl8_2, zl8_3, Int.natCast_add] at c4b2z; try push_cast at c4b2z)
      by_cases c5 : ((t159 ++ (⟨#[32]⟩ : ByteArray)) ++ a0_1).size + 4 ≤ 9223372036854775807
      · rw [if_pos c5] at H
        have c5b0 := eq_true c5
        have c5b1 : decide (((t159 ++ (⟨#[32]⟩ : ByteArray)) ++ a0_1).size + 4 ≤ 9223372036854775807) = true := decide_eq_true c5
        try (have c5b1z := c5b1; simp only [ByteArray.size_append, zl8_0, zl8_1, zl8_2, zl8_3, Int.natCast_add] at c5b1z; try push_cast at c5b1z)
        try have c5b2 : (9223372036854775807 < ((t159 ++ (⟨#[32]⟩ : ByteArray)) ++ a0_1).size + 4) = False := eq_false (Nat.not_lt.2 c5)
        try (have c5b2z := c5b2; simp only [ByteArray.size_append, zl8_0, zl8_1, zl8_2, zl8_3, Int.natCast_add] at c5b2z; try push_cast at c5b2z)
        replace H := Option.bind_eq_some_iff.mp H
        obtain ⟨t160, A60, H⟩ := H
        replace H : (if (((t159 ++ (⟨#[32]⟩ : ByteArray)) ++ a0_1) ++ (⟨#[32, 97, 116, 32]⟩ : ByteArray)).size + t160.size ≤ 9223372036854775807 then (if ((((t159 ++ (⟨#[32]⟩ : ByteArray)) ++ a0_1) ++ (⟨#[32, 97, 116, 32]⟩ : ByteArray)) ++ t160).size + 8 ≤ 9223372036854775807 then ((spec_l1Num.f k a0_3).bind fun t161 => (if (((((t159 ++ (⟨#[32]⟩ : ByteArray)) ++ a0_1) ++ (⟨#[32, 97, 116, 32]⟩ : ByteArray)) ++ t160) ++ (⟨#[44, 32, 100, 101, 112, 116, 104, 32]⟩ : ByteArray)).size + t161.size ≤ 9223372036854775807 then (if ((((((t159 ++ (⟨#[32]⟩ : ByteArray)) ++ a0_1) ++ (⟨#[32, 97, 116, 32]⟩ : ByteArray)) ++ t160) ++ (⟨#[44, 32, 100, 101, 112, 116, 104, 32]⟩ : ByteArray)) ++ t161).size + 7 ≤ 9223372036854775807 then ((spec_l1Num.f k a0_4).bind fun t162 => (if (((((((t159 ++ (⟨#[32]⟩ : ByteArray)) ++ a0_1) ++ (⟨#[32, 97, 116, 32]⟩ : ByteArray)) ++ t160) ++ (⟨#[44, 32, 100, 101, 112, 116, 104, 32]⟩ : ByteArray)) ++ t161) ++ (⟨#[44, 32, 102, 97, 115, 116, 32]⟩ : ByteArray)).size + t162.size ≤ 9223372036854775807 then (some ((((((((t159 ++ (⟨#[32]⟩ : ByteArray)) ++ a0_1) ++ (⟨#[32, 97, 116, 32]⟩ : ByteArray)) ++ t160) ++ (⟨#[44, 32, 100, 101, 112, 116, 104, 32]⟩ : ByteArray)) ++ t161) ++ (⟨#[44, 32, 102, 97, 115, 116, 32]⟩ : ByteArray)) ++ t162)) else (none))) else (none)) else (none))) else (none)) else (none)) = some r := H
        have A6 := Aside0.mk A60
        clear A60
        by_cases c7 : (((t159 ++ (⟨#[32]⟩ : ByteArray)) ++ a0_1) ++ (⟨#[32, 97, 116, 32]⟩ : ByteArray)).size + t160.size ≤ 9223372036854775807
        · rw [if_pos c7] at H
          have c7b0 := eq_true c7
          have c7b1 : decide ((((t159 ++ (⟨#[32]⟩ : ByteArray)) ++ a0_1) ++ (⟨#[32, 97, 116, 32]⟩ : ByteArray)).size + t160.size ≤ 9223372036854775807) = true := decide_eq_true c7
          try (have c7b1z := c7b1; simp only [ByteArray.size_append, zl8_0, zl8_1, zl8_2, zl8_3, Int.natCast_add] at c7b1z; try push_cast at c7b1z)
          try have c7b2 : (9223372036854775807 < (((t159 ++ (⟨#[32]⟩ : ByteArray)) ++ a0_1) ++ (⟨#[32, 97, 116, 32]⟩ : ByteArray)).size + t160.size) = False := eq_false (Nat.not_lt.2 c7)
          try (have c7b2z := c7b2; simp only [ByteArray.size_append, zl8_0, zl8_1, zl8_2, zl8_3, Int.natCast_add] at c7b2z; try push_cast at c7b2z)
          by_cases c8 : ((((t159 ++ (⟨#[32]⟩ : ByteArray)) ++ a0_1) ++ (⟨#[32, 97, 116, 32]⟩ : ByteArray)) ++ t160).size + 8 ≤ 9223372036854775807
          · rw [if_pos c8] at H
            have c8b0 := eq_true c8
            have c8b1 : decide (((((t159 ++ (⟨#[32]⟩ : ByteArray)) ++ a0_1) ++ (⟨#[32, 97, 116, 32]⟩ : ByteArray)) ++ t160).size + 8 ≤ 9223372036854775807) = true := decide_eq_true c8
            try (have c8b1z := c8b1; simp only [ByteArray.size_append, zl8_0, zl8_1, zl8_2, zl8_3, Int.natCast_add] at c8b1z; try push_cast at c8b1z)
            try have c8b2 : (9223372036854775807 < ((((t159 ++ (⟨#[32]⟩ : ByteArray)) ++ a0_1) ++ (⟨#[32, 97, 116, 32]⟩ : ByteArray)) ++ t160).size + 8) = False := eq_false (Nat.not_lt.2 c8)
            try (have c8b2z := c8b2; simp only [ByteArray.size_append, zl8_0, zl8_1, zl8_2, zl8_3, Int.natCast_add] at c8b2z; try push_cast at c8b2z)
            replace H := Option.bind_eq_some_iff.mp H
            obtain ⟨t161, A90, H⟩ := H
            replace H : (if (((((t159 ++ (⟨#[32]⟩ : ByteArray)) ++ a0_1) ++ (⟨#[32, 97, 116, 32]⟩ : ByteArray)) ++ t160) ++ (⟨#[44, 32, 100, 101, 112, 116, 104, 32]⟩ : ByteArray)).size + t161.size ≤ 9223372036854775807 then (if ((((((t159 ++ (⟨#[32]⟩ : ByteArray)) ++ a0_1) ++ (⟨#[32, 97, 116, 32]⟩ : ByteArray)) ++ t160) ++ (⟨#[44, 32, 100, 101, 112, 116, 104, 32]⟩ : ByteArray)) ++ t161).size + 7 ≤ 9223372036854775807 then ((spec_l1Num.f k a0_4).bind fun t162 => (if (((((((t159 ++ (⟨#[32]⟩ : ByteArray)) ++ a0_1) ++ (⟨#[32, 97, 116, 32]⟩ : ByteArray)) ++ t160) ++ (⟨#[44, 32, 100, 101, 112, 116, 104, 32]⟩ : ByteArray)) ++ t161) ++ (⟨#[44, 32, 102, 97, 115, 116, 32]⟩ : ByteArray)).size + t162.size ≤ 9223372036854775807 then (some ((((((((t159 ++ (⟨#[32]⟩ : ByteArray)) ++ a0_1) ++ (⟨#[32, 97, 116, 32]⟩ : ByteArray)) ++ t160) ++ (⟨#[44, 32, 100, 101, 112, 116, 104, 32]⟩ : ByteArray)) ++ t161) ++ (⟨#[44, 32, 102, 97, 115, 116, 32]⟩ : ByteArray)) ++ t162)) else (none))) else (none)) else (none)) = some r := H
            have A9 := Aside0.mk A90
            clear A90
            by_cases c10 : (((((t159 ++ (⟨#[32]⟩ : ByteArray)) ++ a0_1) ++ (⟨#[32, 97, 116, 32]⟩ : ByteArray)) ++ t160) ++ (⟨#[44, 32, 100, 101, 112, 116, 104, 32]⟩ : ByteArray)).size + t161.size ≤ 9223372036854775807
            · rw [if_pos c10] at H
              have c10b0 := eq_true c10
              have c10b1 : decide ((((((t159 ++ (⟨#[32]⟩ : ByteArray)) ++ a0_1) ++ (⟨#[32, 97, 116, 32]⟩ : ByteArray)) ++ t160) ++ (⟨#[44, 32, 100, 101, 112, 116, 104, 32]⟩ : ByteArray)).size + t161.size ≤ 9223372036854775807) = true := decide_eq_true c10
              try (have c10b1z := c10b1; simp only [ByteArray.size_append, zl8_0, zl8_1, zl8_2, zl8_3, Int.natCast_add] at c10b1z; try push_cast at c10b1z)
              try have c10b2 : (9223372036854775807 < (((((t159 ++ (⟨#[32]⟩ : ByteArray)) ++ a0_1) ++ (⟨#[32, 97, 116, 32]⟩ : ByteArray)) ++ t160) ++ (⟨#[44, 32, 100, 101, 112, 116, 104, 32]⟩ : ByteArray)).size + t161.size) = False := eq_false (Nat.not_lt.2 c10)
              try (have c10b2z := c10b2; simp only [ByteArray.size_append, zl8_0, zl8_1, zl8_2, zl8_3, Int.natCast_add] at c10b2z; try push_cast at c10b2z)
              by_cases c11 : ((((((t159 ++ (⟨#[32]⟩ : ByteArray)) ++ a0_1) ++ (⟨#[32, 97, 116, 32]⟩ : ByteArray)) ++ t160) ++ (⟨#[44, 32, 100, 101, 112, 116, 104, 32]⟩ : ByteArray)) ++ t161).size + 7 ≤ 9223372036854775807
              · rw [if_pos c11] at H
                have c11b0 := eq_true c11
                have c11b1 : decide (((((((t159 ++ (⟨#[32]⟩ : ByteArray)) ++ a0_1) ++ (⟨#[32, 97, 116, 32]⟩ : ByteArray)) ++ t160) ++ (⟨#[44, 32, 100, 101, 112, 116, 104, 32]⟩ : ByteArray)) ++ t161).size + 7 ≤ 9223372036854775807) = true := decide_eq_true c11
                try (have c11b1z := c11b1; simp only [ByteArray.size_append, zl8_0, zl8_1, zl8_2, zl8_3, Int.natCast_add] at c11b1z; try push_cast at c11b1z)
                try have c11b2 : (9223372036854775807 < ((((((t159 ++ (⟨#[32]⟩ : ByteArray)) ++ a0_1) ++ (⟨#[32, 97, 116, 32]⟩ : ByteArray)) ++ t160) ++ (⟨#[44, 32, 100, 101, 112, 116, 104, 32]⟩ : ByteArray)) ++ t161).size + 7) = False := eq_false (Nat.not_lt.2 c11)
                try (have c11b2z := c11b2; simp only [ByteArray.size_append, zl8_0, zl8_1, zl8_2, zl8_3, Int.natCast_add] at c11b2z; try push_cast at c11b2z)
                replace H := Option.bind_eq_some_iff.mp H
                obtain ⟨t162, A120, H⟩ := H
                replace H : (if (((((((t159 ++ (⟨#[32]⟩ : ByteArray)) ++ a0_1) ++ (⟨#[32, 97, 116, 32]⟩ : ByteArray)) ++ t160) ++ (⟨#[44, 32, 100, 101, 112, 116, 104, 32]⟩ : ByteArray)) ++ t161) ++ (⟨#[44, 32, 102, 97, 115, 116, 32]⟩ : ByteArray)).size + t162.size ≤ 9223372036854775807 then (some ((((((((t159 ++ (⟨#[32]⟩ : ByteArray)) ++ a0_1) ++ (⟨#[32, 97, 116, 32]⟩ : ByteArray)) ++ t160) ++ (⟨#[44, 32, 100, 101, 112, 116, 104, 32]⟩ : ByteArray)) ++ t161) ++ (⟨#[44, 32, 102, 97, 115, 116, 32]⟩ : ByteArray)) ++ t162)) else (none)) = some r := H
                have A12 := Aside0.mk A120
                clear A120
                by_cases c13 : (((((((t159 ++ (⟨#[32]⟩ : ByteArray)) ++ a0_1) ++ (⟨#[32, 97, 116, 32]⟩ : ByteArray)) ++ t160) ++ (⟨#[44, 32, 100, 101, 112, 116, 104, 32]⟩ : ByteArray)) ++ t161) ++ (⟨#[44, 32, 102, 97, 115, 116, 32]⟩ : ByteArray)).size + t162.size ≤ 9223372036854775807
                · rw [if_pos c13] at H
                  have c13b0 := eq_true c13
                  have c13b1 : decide ((((((((t159 ++ (⟨#[32]⟩ : ByteArray)) ++ a0_1) ++ (⟨#[32, 97, 116, 32]⟩ : ByteArray)) ++ t160) ++ (⟨#[44, 32, 100, 101, 112, 116, 104, 32]⟩ : ByteArray)) ++ t161) ++ (⟨#[44, 32, 102, 97, 115, 116, 32]⟩ : ByteArray)).size + t162.size ≤ 9223372036854775807) = true := decide_eq_true c13
                  try (have c13b1z := c13b1; simp only [ByteArray.size_append, zl8_0, zl8_1, zl8_2, zl8_3, Int.natCast_add] at c13b1z; try push_cast at c13b1z)
                  try have c13b2 : (9223372036854775807 < (((((((t159 ++ (⟨#[32]⟩ : ByteArray)) ++ a0_1) ++ (⟨#[32, 97, 116, 32]⟩ : ByteArray)) ++ t160) ++ (⟨#[44, 32, 100, 101, 112, 116, 104, 32]⟩ : ByteArray)) ++ t161) ++ (⟨#[44, 32, 102, 97, 115, 116, 32]⟩ : ByteArray)).size + t162.size) = False := eq_false (Nat.not_lt.2 c13)
                  try (have c13b2z := c13b2; simp only [ByteArray.size_append, zl8_0, zl8_1, zl8_2, zl8_3, Int.natCast_add] at c13b2z; try push_cast at c13b2z)
                  obtain rfl := Option.some.inj H
                  go_enter Tryd.func16, Tryd.ntmps16
                  try go_wp2_with (first | ((with_reducible refine gate_dst (N := 1) rfl ?_); refine box_event ?hg (N := 1) ?hd (cs := #[.int .i64 a0_0, .string a0_1, .int .i64 a0_2, .int .i64 a0_3, .int .i64 a0_4]) (t := 26) ?hr ?_; (case hd => rfl); (case hg => rfl); (case hr => first | (go_simp; done) | (go_simp; rfl)); intro gb158 hg w14 hbox hb; have n0_ := Aside0.mk (below_step (by repeat (first | (with_reducible first | exact HB.out | apply below_alloc | apply pw_below_drewN | apply below_drew1) | exact HB.out)) hb); have n1_ := Aside0.mk (hbox); have n2_ := Aside0.mk ((by rw [hg]; exact (below_size (by repeat (first | (with_reducible first | exact HB.out | apply below_alloc | apply pw_below_drewN | apply below_drew1) | exact HB.out))) : w.heap.size ≤ gb158)); have n3_ := Aside0.mk ((by rw [hg]; exact (below_size (by repeat (first | (with_reducible first | exact HB.out | apply below_alloc | apply pw_below_drewN | apply below_drew1) | exact HB.out))) : w.heap.size ≤ gb158)); clear HB; have HB := n0_; have BK158 := n1_; have GW158 := n2_; have GE158 := n3_; clear n0_ n1_ n2_ n3_; clear hb hbox hg))
                  have n0_ := Aside0.mk (blk_drew BK158.out)
                  have n1_ := Aside0.mk (below_drew1 HB.out)
                  clear BK158
                  clear HB
                  have BK158 := n0_
                  have HB := n1_
                  clear n0_ n1_
                  refine start_ (n := 23) (S := fun w' => w'.cell? ⟨gb158, 0, none⟩ = some (.int .i64 a0_0) ∧ w'.cell? ⟨gb158, 1, none⟩ = some (.string a0_1) ∧ w'.cell? ⟨gb158, 2, none⟩ = some (.int .i64 a0_2) ∧ w'.cell? ⟨gb158, 3, none⟩ = some (.int .i64 a0_3) ∧ w'.cell? ⟨gb158, 4, none⟩ = some (.int .i64 a0_4)) (ds := []) #[false, false, false, false, false, false, false, false, false, false, false, false, false, false, false, false, false, false, false, false, false, false, false] (by kernel_rfl) rfl rfl ⟨(blk_cell BK158.out 0).trans rfl, (blk_cell BK158.out 1).trans rfl, (blk_cell BK158.out 2).trans rfl, (blk_cell BK158.out 3).trans rfl, (blk_cell BK158.out 4).trans rfl⟩ (fun hHeld => ?_); refine with_tabW spec_l3Text.tab1 spec_l3Text.bits1 (fun HT_ HW_ => ?_)
                  generalize w14.drew = w15 at BK158 HB hHeld ⊢
                  refine pure_ (i := 0) (N := some 3) (v := ?_) (a' := ?_) #[true, false, false, false, false, false, false, false, false, false, false, false, false, false, false, false, false, false, false, false, false, false, false] rfl rfl (any_of HT_.out (by kernel_rfl)) (fun _ _ _ h => h) (Or.inl ⟨by rfl, ?_⟩) ?_ ?_
                  rotate_left
                  · intro w'
                    go_simp
                    first
                      | with_reducible rfl
                      | (rw [if_neg (by simp only [ByteArray.size_append, zl8_0, zl8_1, zl8_2, zl8_3, ByteArray.size_extract] at *; omega)])
                  rotate_left
                  · simp only [Act.put, List.setIfInBounds_toArray, List.set_cons_zero, List.set_cons_succ, i64_w, i32_w]
                    rfl
                  refine pure_ (i := 4) (N := some 7) (v := ?_) (a' := ?_) #[true, false, false, false, true, false, false, false, false, false, false, false, false, false, false, false, false, false, false, false, false, false, false] rfl rfl (any_of HT_.out (by kernel_rfl)) (fun _ _ _ h => h) (Or.inl ⟨by rfl, ?_⟩) ?_ ?_
                  rotate_left
                  · intro w'
                    go_simp
                    first
                      | with_reducible rfl
                      | (rw [if_neg (by simp only [ByteArray.size_append, zl8_0, zl8_1, zl8_2, zl8_3, ByteArray.size_extract] at *; omega)])
                  rotate_left
                  · simp only [Act.put, List.setIfInBounds_toArray, List.set_cons_zero, List.set_cons_succ, i64_w, i32_w]
                    rfl
                  refine pure_ (i := 8) (N := some 11) (v := ?_) (a' := ?_) #[true, false, false, false, true, false, false, false, true, false, false, false, false, false, false, false, false, false, false, false, false, false, false] rfl rfl (any_of HT_.out (by kernel_rfl)) (fun _ _ _ h => h) (Or.inl ⟨by rfl, ?_⟩) ?_ ?_
                  rotate_left
                  · intro w'
                    go_simp
                    first
                      | with_reducible rfl
                      | (rw [if_neg (by simp only [ByteArray.size_append, zl8_0, zl8_1, zl8_2, zl8_3, ByteArray.size_extract] at *; omega)])
                  rotate_left
                  · simp only [Act.put, List.setIfInBounds_toArray, List.set_cons_zero, List.set_cons_succ, i64_w, i32_w]
                    rfl
                  refine pure_ (i := 13) (N := some 16) (v := ?_) (a' := ?_) #[true, false, false, false, true, false, false, false, true, false, false, false, false, true, false, false, false, false, false, false, false, false, false] rfl rfl (any_of HT_.out (by kernel_rfl)) (fun _ _ _ h => h) (Or.inl ⟨by rfl, ?_⟩) ?_ ?_
                  rotate_left
                  · intro w'
                    go_simp
                    first
                      | with_reducible rfl
                      | (rw [if_neg (by simp only [ByteArray.size_append, zl8_0, zl8_1, zl8_2, zl8_3, ByteArray.size_extract] at *; omega)])
                  rotate_left
                  · simp only [Act.put, List.setIfInBounds_toArray, List.set_cons_zero, List.set_cons_succ, i64_w, i32_w]
                    rfl
                  refine pure_ (i := 18) (N := some 21) (v := ?_) (a' := ?_) #[true, false, false, false, true, false, false, false, true, false, false, false, false, true, false, false, false, false, true, false, false, false, false] rfl rfl (any_of HT_.out (by kernel_rfl)) (fun _ _ _ h => h) (Or.inl ⟨by rfl, ?_⟩) ?_ ?_
                  rotate_left
                  · intro w'
                    go_simp
                    first
                      | with_reducible rfl
                      | (rw [if_neg (by simp only [ByteArray.size_append, zl8_0, zl8_1, zl8_2, zl8_3, ByteArray.size_extract] at *; omega)])
                  rotate_left
                  · simp only [Act.put, List.setIfInBounds_toArray, List.set_cons_zero, List.set_cons_succ, i64_w, i32_w]
                    rfl
                  refine take_ (i := 1) (N := some 4) (v := ?_) (a' := ?_) #[true, true, false, false, true, false, false, false, true, false, false, false, false, true, false, false, false, false, true, false, false, false, false] rfl rfl (take_ofW HT_.out HW_.out (by kernel_rfl)) (fun _ _ _ h => h) (Or.inl ⟨by rfl, ?_⟩) hHeld ?_ ?_
                  rotate_left
                  · rintro w' ⟨s0, s1, s2, s3, s4⟩
                    go_simp
                    with_reducible rfl
                  rotate_left
                  · simp only [Act.put, List.setIfInBounds_toArray, List.set_cons_zero, List.set_cons_succ, i64_w, i32_w]
                    rfl
                  refine take_ (i := 5) (N := some 8) (v := ?_) (a' := ?_) #[true, true, false, false, true, true, false, false, true, false, false, false, false, true, false, false, false, false, true, false, false, false, false] rfl rfl (take_ofW HT_.out HW_.out (by kernel_rfl)) (fun _ _ _ h => h) (Or.inl ⟨by rfl, ?_⟩) hHeld ?_ ?_
                  rotate_left
                  · rintro w' ⟨s0, s1, s2, s3, s4⟩
                    go_simp
                    with_reducible rfl
                  rotate_left
                  · simp only [Act.put, List.setIfInBounds_toArray, List.set_cons_zero, List.set_cons_succ, i64_w, i32_w]
                    rfl
                  refine take_ (i := 9) (N := some 12) (v := ?_) (a' := ?_) #[true, true, false, false, true, true, false, false, true, true, false, false, false, true, false, false, false, false, true, false, false, false, false] rfl rfl (take_ofW HT_.out HW_.out (by kernel_rfl)) (fun _ _ _ h => h) (Or.inl ⟨by rfl, ?_⟩) hHeld ?_ ?_
                  rotate_left
                  · rintro w' ⟨s0, s1, s2, s3, s4⟩
                    go_simp
                    with_reducible rfl
                  rotate_left
                  · simp only [Act.put, List.setIfInBounds_toArray, List.set_cons_zero, List.set_cons_succ, i64_w, i32_w]
                    rfl
                  refine take_ (i := 14) (N := some 17) (v := ?_) (a' := ?_) #[true, true, false, false, true, true, false, false, true, true, false, false, false, true, true, false, false, false, true, false, false, false, false] rfl rfl (take_ofW HT_.out HW_.out (by kernel_rfl)) (fun _ _ _ h => h) (Or.inl ⟨by rfl, ?_⟩) hHeld ?_ ?_
                  rotate_left
                  · rintro w' ⟨s0, s1, s2, s3, s4⟩
                    go_simp
                    with_reducible rfl
                  rotate_left
                  · simp only [Act.put, List.setIfInBounds_toArray, List.set_cons_zero, List.set_cons_succ, i64_w, i32_w]
                    rfl
                  refine take_ (i := 19) (N := some 22) (v := ?_) (a' := ?_) #[true, true, false, false, true, true, false, false, true, true, false, false, false, true, true, false, false, false, true, true, false, false, false] rfl rfl (take_ofW HT_.out HW_.out (by kernel_rfl)) (fun _ _ _ h => h) (Or.inl ⟨by rfl, ?_⟩) hHeld ?_ ?_
                  rotate_left
                  · rintro w' ⟨s0, s1, s2, s3, s4⟩
                    go_simp
                    with_reducible rfl
                  rotate_left
                  · simp only [Act.put, List.setIfInBounds_toArray, List.set_cons_zero, List.set_cons_succ, i64_w, i32_w]
                    rfl
                  refine one_ (i := 2) (N := some 5) #[true, true, true, false, true, true, false, false, true, true, false, false, false, true, true, false, false, false, true, true, false, false, false] rfl rfl (one_of HT_.out (by kernel_rfl)) (by decide) (fun K hK => ?_)
                  refine goes_ Tryd.func22 (by kernel_rfl) rfl #[.int .i64 a0_0] (by rfl) rfl rfl (by (try simp only [List.map_toArray, List.map_cons, List.map_nil]); first | done | rfl | (simp only [List.length_drop, List.length_take]; rfl)) ?_
                  with_reducible refine (spec_l1Num.calls k a0_0 t159 _ A2.out).mono ?_
                  rintro e w16 ⟨rfl, hb⟩
                  refine ⟨_, rfl, ?_⟩
                  have n0_ := Aside0.mk (blk_below (g := gb158) (o := .cells #[.int .i64 a0_0, .string a0_1, .int .i64 a0_2, .int .i64 a0_3, .int .i64 a0_4] 26 (0, 0)) (by (with_reducible repeat (first | refine blk_drewN ?_ _ | refine blk_drew ?_ | refine blk_alloc ?_ _)); exact BK158.out) hb)
                  have n1_ := Aside0.mk (below_step (by repeat (first | (with_reducible first | exact HB.out | apply below_alloc | apply pw_below_drewN | apply below_drew1 | refine below_set ?_ GE158.out) | exact HB.out)) hb)
                  clear BK158
                  clear HB
                  have BK158 := n0_
                  have HB := n1_
                  clear n0_ n1_
                  (try clear hb)
                  (try clear hb2)
                  (try clear hk)
                  (try clear hi)
                  refine hK.out _ _ ⟨(blk_cell BK158.out 0).trans rfl, (blk_cell BK158.out 1).trans rfl, (blk_cell BK158.out 2).trans rfl, (blk_cell BK158.out 3).trans rfl, (blk_cell BK158.out 4).trans rfl⟩ (fun hHeld => ?_)
                  clear hK K
                  refine norm_ (a' := ?_) ?_ ?_
                  rotate_left
                  · show Act.put _ (some 5) _ = _
                    simp only [Act.put, List.setIfInBounds_toArray, List.set_cons_zero, List.set_cons_succ, i64_w, i32_w]
                    rfl
                  refine pure_ (i := 3) (N := some 6) (v := ?_) (a' := ?_) #[true, true, true, true, true, true, false, false, true, true, false, false, false, true, true, false, false, false, true, true, false, false, false] rfl rfl (any_of HT_.out (by kernel_rfl)) (fun _ _ _ h => h) (Or.inl ⟨by rfl, ?_⟩) ?_ ?_
                  rotate_left
                  · intro w'
                    go_simp
                    first
                      | with_reducible rfl
                      | (rw [if_neg (by simp only [ByteArray.size_append, zl8_0, zl8_1, zl8_2, zl8_3, ByteArray.size_extract] at *; omega)])
                  rotate_left
                  · simp only [Act.put, List.setIfInBounds_toArray, List.set_cons_zero, List.set_cons_succ, i64_w, i32_w]
                    rfl
                  refine pure_ (i := 6) (N := some 9) (v := ?_) (a' := ?_) #[true, true, true, true, true, true, true, false, true, true, false, false, false, true, true, false, false, false, true, true, false, false, false] rfl rfl (any_of HT_.out (by kernel_rfl)) (fun _ _ _ h => h) (Or.inl ⟨by rfl, ?_⟩) ?_ ?_
                  rotate_left
                  · intro w'
                    go_simp
                    first
                      | with_reducible rfl
                      | (rw [if_neg (by simp only [ByteArray.size_append, zl8_0, zl8_1, zl8_2, zl8_3, ByteArray.size_extract] at *; omega)])
                  rotate_left
                  · simp only [Act.put, List.setIfInBounds_toArray, List.set_cons_zero, List.set_cons_succ, i64_w, i32_w]
                    rfl
                  refine pure_ (i := 7) (N := some 10) (v := ?_) (a' := ?_) #[true, true, true, true, true, true, true, true, true, true, false, false, false, true, true, false, false, false, true, true, false, false, false] rfl rfl (any_of HT_.out (by kernel_rfl)) (fun _ _ _ h => h) (Or.inl ⟨by rfl, ?_⟩) ?_ ?_
                  rotate_left
                  · intro w'
                    go_simp
                    first
                      | with_reducible rfl
                      | (rw [if_neg (by simp only [ByteArray.size_append, zl8_0, zl8_1, zl8_2, zl8_3, ByteArray.size_extract] at *; omega)])
                  rotate_left
                  · simp only [Act.put, List.setIfInBounds_toArray, List.set_cons_zero, List.set_cons_succ, i64_w, i32_w]
                    rfl
                  refine one_ (i := 10) (N := some 13) #[true, true, true, true, true, true, true, true, true, true, true, false, false, true, true, false, false, false, true, true, false, false, false] rfl rfl (one_of HT_.out (by kernel_rfl)) (by decide) (fun K hK => ?_)
                  refine goes_ Tryd.func22 (by kernel_rfl) rfl #[.int .i64 a0_2] (by rfl) rfl rfl (by (try simp only [List.map_toArray, List.map_cons, List.map_nil]); first | done | rfl | (simp only [List.length_drop, List.length_take]; rfl)) ?_
                  with_reducible refine (spec_l1Num.calls k a0_2 t160 _ A6.out).mono ?_
                  rintro e w17 ⟨rfl, hb⟩
                  refine ⟨_, rfl, ?_⟩
                  have n0_ := Aside0.mk (blk_below (g := gb158) (o := .cells #[.int .i64 a0_0, .string a0_1, .int .i64 a0_2, .int .i64 a0_3, .int .i64 a0_4] 26 (0, 0)) (by (with_reducible repeat (first | refine blk_drewN ?_ _ | refine blk_drew ?_ | refine blk_alloc ?_ _)); exact BK158.out) hb)
                  have n1_ := Aside0.mk (below_step (by repeat (first | (with_reducible first | exact HB.out | apply below_alloc | apply pw_below_drewN | apply below_drew1 | refine below_set ?_ GE158.out) | exact HB.out)) hb)
                  clear BK158
                  clear HB
                  have BK158 := n0_
                  have HB := n1_
                  clear n0_ n1_
                  (try clear hb)
                  (try clear hb2)
                  (try clear hk)
                  (try clear hi)
                  refine hK.out _ _ ⟨(blk_cell BK158.out 0).trans rfl, (blk_cell BK158.out 1).trans rfl, (blk_cell BK158.out 2).trans rfl, (blk_cell BK158.out 3).trans rfl, (blk_cell BK158.out 4).trans rfl⟩ (fun hHeld => ?_)
                  clear hK K
                  refine norm_ (a' := ?_) ?_ ?_
                  rotate_left
                  · show Act.put _ (some 13) _ = _
                    simp only [Act.put, List.setIfInBounds_toArray, List.set_cons_zero, List.set_cons_succ, i64_w, i32_w]
                    rfl
                  refine pure_ (i := 11) (N := some 14) (v := ?_) (a' := ?_) #[true, true, true, true, true, true, true, true, true, true, true, true, false, true, true, false, false, false, true, true, false, false, false] rfl rfl (any_of HT_.out (by kernel_rfl)) (fun _ _ _ h => h) (Or.inl ⟨by rfl, ?_⟩) ?_ ?_
                  rotate_left
                  · intro w'
                    go_simp
                    first
                      | with_reducible rfl
                      | (rw [if_neg (by simp only [ByteArray.size_append, zl8_0, zl8_1, zl8_2, zl8_3, ByteArray.size_extract] at *; omega)])
                  rotate_left
                  · simp only [Act.put, List.setIfInBounds_toArray, List.set_cons_zero, List.set_cons_succ, i64_w, i32_w]
                    rfl
                  refine pure_ (i := 12) (N := some 15) (v := ?_) (a' := ?_) #[true, true, true, true, true, true, true, true, true, true, true, true, true, true, true, false, false, false, true, true, false, false, false] rfl rfl (any_of HT_.out (by kernel_rfl)) (fun _ _ _ h => h) (Or.inl ⟨by rfl, ?_⟩) ?_ ?_
                  rotate_left
                  · intro w'
                    go_simp
                    first
                      | with_reducible rfl
                      | (rw [if_neg (by simp only [ByteArray.size_append, zl8_0, zl8_1, zl8_2, zl8_3, ByteArray.size_extract] at *; omega)])
                  rotate_left
                  · simp only [Act.put, List.setIfInBounds_toArray, List.set_cons_zero, List.set_cons_succ, i64_w, i32_w]
                    rfl
                  refine one_ (i := 15) (N := some 18) #[true, true, true, true, true, true, true, true, true, true, true, true, true, true, true, true, false, false, true, true, false, false, false] rfl rfl (one_of HT_.out (by kernel_rfl)) (by decide) (fun K hK => ?_)
                  refine goes_ Tryd.func22 (by kernel_rfl) rfl #[.int .i64 a0_3] (by rfl) rfl rfl (by (try simp only [List.map_toArray, List.map_cons, List.map_nil]); first | done | rfl | (simp only [List.length_drop, List.length_take]; rfl)) ?_
                  with_reducible refine (spec_l1Num.calls k a0_3 t161 _ A9.out).mono ?_
                  rintro e w18 ⟨rfl, hb⟩
                  refine ⟨_, rfl, ?_⟩
                  have n0_ := Aside0.mk (blk_below (g := gb158) (o := .cells #[.int .i64 a0_0, .string a0_1, .int .i64 a0_2, .int .i64 a0_3, .int .i64 a0_4] 26 (0, 0)) (by (with_reducible repeat (first | refine blk_drewN ?_ _ | refine blk_drew ?_ | refine blk_alloc ?_ _)); exact BK158.out) hb)
                  have n1_ := Aside0.mk (below_step (by repeat (first | (with_reducible first | exact HB.out | apply below_alloc | apply pw_below_drewN | apply below_drew1 | refine below_set ?_ GE158.out) | exact HB.out)) hb)
                  clear BK158
                  clear HB
                  have BK158 := n0_
                  have HB := n1_
                  clear n0_ n1_
                  (try clear hb)
                  (try clear hb2)
                  (try clear hk)
                  (try clear hi)
                  refine hK.out _ _ ⟨(blk_cell BK158.out 0).trans rfl, (blk_cell BK158.out 1).trans rfl, (blk_cell BK158.out 2).trans rfl, (blk_cell BK158.out 3).trans rfl, (blk_cell BK158.out 4).trans rfl⟩ (fun hHeld => ?_)
                  clear hK K
                  refine norm_ (a' := ?_) ?_ ?_
                  rotate_left
                  · show Act.put _ (some 18) _ = _
                    simp only [Act.put, List.setIfInBounds_toArray, List.set_cons_zero, List.set_cons_succ, i64_w, i32_w]
                    rfl
                  refine pure_ (i := 16) (N := some 19) (v := ?_) (a' := ?_) #[true, true, true, true, true, true, true, true, true, true, true, true, true, true, true, true, true, false, true, true, false, false, false] rfl rfl (any_of HT_.out (by kernel_rfl)) (fun _ _ _ h => h) (Or.inl ⟨by rfl, ?_⟩) ?_ ?_
                  rotate_left
                  · intro w'
                    go_simp
                    first
                      | with_reducible rfl
                      | (rw [if_neg (by simp only [ByteArray.size_append, zl8_0, zl8_1, zl8_2, zl8_3, ByteArray.size_extract] at *; omega)])
                  rotate_left
                  · simp only [Act.put, List.setIfInBounds_toArray, List.set_cons_zero, List.set_cons_succ, i64_w, i32_w]
                    rfl
                  refine pure_ (i := 17) (N := some 20) (v := ?_) (a' := ?_) #[true, true, true, true, true, true, true, true, true, true, true, true, true, true, true, true, true, true, true, true, false, false, false] rfl rfl (any_of HT_.out (by kernel_rfl)) (fun _ _ _ h => h) (Or.inl ⟨by rfl, ?_⟩) ?_ ?_
                  rotate_left
                  · intro w'
                    go_simp
                    first
                      | with_reducible rfl
                      | (rw [if_neg (by simp only [ByteArray.size_append, zl8_0, zl8_1, zl8_2, zl8_3, ByteArray.size_extract] at *; omega)])
                  rotate_left
                  · simp only [Act.put, List.setIfInBounds_toArray, List.set_cons_zero, List.set_cons_succ, i64_w, i32_w]
                    rfl
                  refine one_ (i := 20) (N := some 23) #[true, true, true, true, true, true, true, true, true, true, true, true, true, true, true, true, true, true, true, true, true, false, false] rfl rfl (one_of HT_.out (by kernel_rfl)) (by decide) (fun K hK => ?_)
                  refine goes_ Tryd.func22 (by kernel_rfl) rfl #[.int .i64 a0_4] (by rfl) rfl rfl (by (try simp only [List.map_toArray, List.map_cons, List.map_nil]); first | done | rfl | (simp only [List.length_drop, List.length_take]; rfl)) ?_
                  with_reducible refine (spec_l1Num.calls k a0_4 t162 _ A12.out).mono ?_
                  rintro e w19 ⟨rfl, hb⟩
                  refine ⟨_, rfl, ?_⟩
                  have n0_ := Aside0.mk (blk_below (g := gb158) (o := .cells #[.int .i64 a0_0, .string a0_1, .int .i64 a0_2, .int .i64 a0_3, .int .i64 a0_4] 26 (0, 0)) (by (with_reducible repeat (first | refine blk_drewN ?_ _ | refine blk_drew ?_ | refine blk_alloc ?_ _)); exact BK158.out) hb)
                  have n1_ := Aside0.mk (below_step (by repeat (first | (with_reducible first | exact HB.out | apply below_alloc | apply pw_below_drewN | apply below_drew1 | refine below_set ?_ GE158.out) | exact HB.out)) hb)
                  clear BK158
                  clear HB
                  have BK158 := n0_
                  have HB := n1_
                  clear n0_ n1_
                  (try clear hb)
                  (try clear hb2)
                  (try clear hk)
                  (try clear hi)
                  refine hK.out _ _ ⟨(blk_cell BK158.out 0).trans rfl, (blk_cell BK158.out 1).trans rfl, (blk_cell BK158.out 2).trans rfl, (blk_cell BK158.out 3).trans rfl, (blk_cell BK158.out 4).trans rfl⟩ (fun hHeld => ?_)
                  clear hK K
                  refine norm_ (a' := ?_) ?_ ?_
                  rotate_left
                  · show Act.put _ (some 23) _ = _
                    simp only [Act.put, List.setIfInBounds_toArray, List.set_cons_zero, List.set_cons_succ, i64_w, i32_w]
                    rfl
                  refine pure_ (i := 21) (N := some 24) (v := ?_) (a' := ?_) #[true, true, true, true, true, true, true, true, true, true, true, true, true, true, true, true, true, true, true, true, true, true, false] rfl rfl (any_of HT_.out (by kernel_rfl)) (fun _ _ _ h => h) (Or.inl ⟨by rfl, ?_⟩) ?_ ?_
                  rotate_left
                  · intro w'
                    go_simp
                    first
                      | with_reducible rfl
                      | (rw [if_neg (by simp only [ByteArray.size_append, zl8_0, zl8_1, zl8_2, zl8_3, ByteArray.size_extract] at *; omega)])
                  rotate_left
                  · simp only [Act.put, List.setIfInBounds_toArray, List.set_cons_zero, List.set_cons_succ, i64_w, i32_w]
                    rfl
                  refine pure_ (i := 22) (N := some 2) (v := ?_) (a' := ?_) #[true, true, true, true, true, true, true, true, true, true, true, true, true, true, true, true, true, true, true, true, true, true, true] rfl rfl (any_of HT_.out (by kernel_rfl)) (fun _ _ _ h => h) (Or.inl ⟨by rfl, ?_⟩) ?_ ?_
                  rotate_left
                  · intro w'
                    go_simp
                    first
                      | with_reducible rfl
                      | (rw [if_neg (by simp only [ByteArray.size_append, zl8_0, zl8_1, zl8_2, zl8_3, ByteArray.size_extract] at *; omega)])
                  rotate_left
                  · simp only [Act.put, List.setIfInBounds_toArray, List.set_cons_zero, List.set_cons_succ, i64_w, i32_w]
                    rfl
                  refine done_ (done_of HT_.out (by kernel_rfl)) ?_
                  try go_wp2
                  go_ret
                  exact ⟨by first | rfl | (simp [errW_none, errW_some] <;> rfl) | (simp [*, errW_none, errW_some] <;> rfl), by repeat (first | (with_reducible first | exact HB.out | apply below_alloc | apply pw_below_drewN | apply below_drew1 | refine below_set ?_ GE158.out) | exact HB.out)⟩
                · rw [if_neg c13] at H
                  exact absurd H (by simp)
              · rw [if_neg c11] at H
                exact absurd H (by simp)
            · rw [if_neg c10] at H
              exact absurd H (by simp)
          · rw [if_neg c8] at H
            exact absurd H (by simp)
        · rw [if_neg c7] at H
          exact absurd H (by simp)
      · rw [if_neg c5] at H
        exact absurd H (by simp)
    · rw [if_neg c4] at H
      exact absurd H (by simp)
  · rw [if_neg c3] at H
    exact absurd H (by simp)

end Go.Proofs.YthcgeejoocpbmaaDoor.G
