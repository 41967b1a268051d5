-- Printed by a program of this session (wip/tools/gp.sh); Lean checks it.
import Derived.Test.YtcfkgcdhioamnaaDoorGx0
import Derived.Test.YtcfkgcdhioamnaaDoorGx3
import Derived.Test.YtcfkgcdhioamnaaDoorGx8
namespace Go.Proofs.YtcfkgcdhioamnaaDoor.G
open Go.RowKit Go.Proofs.YtcfkgcdhioamnaaDoorW.PrintWords Go.Proofs.YtcfkgcdhioamnaaDoorW.PrintLast Go.Proofs.YtcfkgcdhioamnaaDoorW.PrintMore
attribute [local go_sem] isSome_setCell_ max2_int min2_int max_two min_two max_three min_three max_four min_four   -- for this text's walks alone
set_option linter.unusedVariables false
set_option linter.unusedSimpArgs false
theorem zz1 : (⟨#[32]⟩ : ByteArray).size = 1 := rfl
theorem zz4 : (⟨#[32, 97, 116, 32]⟩ : ByteArray).size = 4 := rfl
theorem zz8 : (⟨#[44, 32, 100, 101, 112, 116, 104, 32]⟩ : ByteArray).size = 8 := rfl
theorem zz7 : (⟨#[44, 32, 102, 97, 115, 116, 32]⟩ : ByteArray).size = 7 := rfl

/-! ### spec_l3Text: function 61 -/
def spec_l3Text.f (k : Nat) (a0_0 : Int) (a0_1 : ByteArray) (a0_2 : Int) (a0_3 : Int) (a0_4 : Int) : Option (ByteArray) := (spec_l1Num.f k a0_0).bind fun t249 => (if t249.size + 1 ≤ 9223372036854775807 then (if (t249 ++ (⟨#[32]⟩ : ByteArray)).size + a0_1.size ≤ 9223372036854775807 then (if ((t249 ++ (⟨#[32]⟩ : ByteArray)) ++ a0_1).size + 4 ≤ 9223372036854775807 then ((spec_l1Num.f k a0_2).bind fun t250 => (if (((t249 ++ (⟨#[32]⟩ : ByteArray)) ++ a0_1) ++ (⟨#[32, 97, 116, 32]⟩ : ByteArray)).size + t250.size ≤ 9223372036854775807 then (if ((((t249 ++ (⟨#[32]⟩ : ByteArray)) ++ a0_1) ++ (⟨#[32, 97, 116, 32]⟩ : ByteArray)) ++ t250).size + 8 ≤ 9223372036854775807 then ((spec_l1Num.f k a0_3).bind fun t251 => (if (((((t249 ++ (⟨#[32]⟩ : ByteArray)) ++ a0_1) ++ (⟨#[32, 97, 116, 32]⟩ : ByteArray)) ++ t250) ++ (⟨#[44, 32, 100, 101, 112, 116, 104, 32]⟩ : ByteArray)).size + t251.size ≤ 9223372036854775807 then (if ((((((t249 ++ (⟨#[32]⟩ : ByteArray)) ++ a0_1) ++ (⟨#[32, 97, 116, 32]⟩ : ByteArray)) ++ t250) ++ (⟨#[44, 32, 100, 101, 112, 116, 104, 32]⟩ : ByteArray)) ++ t251).size + 7 ≤ 9223372036854775807 then ((spec_l1Num.f k a0_4).bind fun t252 => (if (((((((t249 ++ (⟨#[32]⟩ : ByteArray)) ++ a0_1) ++ (⟨#[32, 97, 116, 32]⟩ : ByteArray)) ++ t250) ++ (⟨#[44, 32, 100, 101, 112, 116, 104, 32]⟩ : ByteArray)) ++ t251) ++ (⟨#[44, 32, 102, 97, 115, 116, 32]⟩ : ByteArray)).size + t252.size ≤ 9223372036854775807 then (some ((((((((t249 ++ (⟨#[32]⟩ : ByteArray)) ++ a0_1) ++ (⟨#[32, 97, 116, 32]⟩ : ByteArray)) ++ t250) ++ (⟨#[44, 32, 100, 101, 112, 116, 104, 32]⟩ : ByteArray)) ++ t251) ++ (⟨#[44, 32, 102, 97, 115, 116, 32]⟩ : ByteArray)) ++ t252)) else (none))) else (none)) else (none))) else (none)) else (none))) else (none)) else (none)) else (none))
theorem spec_l3Text.mono : ∀ a0 a1 a2 a3 a4 k, LeO (spec_l3Text.f k a0 a1 a2 a3 a4) (spec_l3Text.f (k + 1) a0 a1 a2 a3 a4) := by
  intro a0 a1 a2 a3 a4 k
  unfold spec_l3Text.f
  repeat' first
      | (with_reducible exact spec_l1Num.mono _ _)
      | (with_reducible exact LeO.refl _)
      | (with_reducible exact LeO.none _)
      | (with_reducible refine LeO.ite ?_ ?_)
      | (with_reducible refine LeO.bind ?_ (fun _ => ?_))
      | exact spec_l1Num.mono _ _
      | exact LeO.none _
      | refine LeO.ite ?_ ?_
      | refine LeO.bind ?_ (fun _ => ?_)
def spec_l3Text.T1 : Bool × List (List Nat × List Nat) := (true, [([], []), ([0], [0]), ([1], [1]), ([2], [2]), ([], []), ([4], [4]), ([3, 5], [3, 5]), ([6], [6]), ([], []), ([8], [8]), ([9, 2], [9]), ([7, 10], [7, 10]), ([11], [11]), ([], []), ([13], [13]), ([14, 10], [14]), ([12, 15], [12, 15]), ([16], [16]), ([], []), ([18], [18]), ([19, 15], [19]), ([17, 20], [17, 20]), ([21, 20, 0, 1, 2, 3, 4, 5, 6, 7, 8, 9, 10, 11, 12, 13, 14, 15, 16, 17, 18, 19, 20, 21], [21])])
def spec_l3Text.B1 : List Nat := [0, 1, 3, 7, 0, 16, 63, 127, 0, 256, 775, 2047, 4095, 0, 8192, 26375, 65535, 131071, 0, 262144, 845575, 2097151, 4194303]
theorem spec_l3Text.tab1 : rtab .any (opsOf Tryd.f61 1) = spec_l3Text.T1 := by kernel_rfl
theorem spec_l3Text.bits1 : waitsOk spec_l3Text.T1.2 spec_l3Text.B1 = true := by kernel_rfl
set_option maxHeartbeats 8000000 in
set_option maxRecDepth 100000 in
theorem spec_l3Text.calls (k : Nat) (a0_0 : Int) (a0_1 : ByteArray) (a0_2 : Int) (a0_3 : Int) (a0_4 : Int) (r : ByteArray) (w : World) (h : spec_l3Text.f k a0_0 a0_1 a0_2 a0_3 a0_4 = some r) :
    Calls Tryd.prog 61 #[.agg #[.int .i64 a0_0, .string a0_1, .int .i64 a0_2, .int .i64 a0_3, .int .i64 a0_4]] w fun e w' => e = .returned (.string r) ∧ Below w.heap.size w w' := by
  have hu26 := Tryd.underlying26
  have HB := Aside0.mk (Below.refl w.heap.size w)
  have H : ((spec_l1Num.f k a0_0).bind fun t249 => (if t249.size + 1 ≤ 9223372036854775807 then (if (t249 ++ (⟨#[32]⟩ : ByteArray)).size + a0_1.size ≤ 9223372036854775807 then (if ((t249 ++ (⟨#[32]⟩ : ByteArray)) ++ a0_1).size + 4 ≤ 9223372036854775807 then ((spec_l1Num.f k a0_2).bind fun t250 => (if (((t249 ++ (⟨#[32]⟩ : ByteArray)) ++ a0_1) ++ (⟨#[32, 97, 116, 32]⟩ : ByteArray)).size + t250.size ≤ 9223372036854775807 then (if ((((t249 ++ (⟨#[32]⟩ : ByteArray)) ++ a0_1) ++ (⟨#[32, 97, 116, 32]⟩ : ByteArray)) ++ t250).size + 8 ≤ 9223372036854775807 then ((spec_l1Num.f k a0_3).bind fun t251 => (if (((((t249 ++ (⟨#[32]⟩ : ByteArray)) ++ a0_1) ++ (⟨#[32, 97, 116, 32]⟩ : ByteArray)) ++ t250) ++ (⟨#[44, 32, 100, 101, 112, 116, 104, 32]⟩ : ByteArray)).size + t251.size ≤ 9223372036854775807 then (if ((((((t249 ++ (⟨#[32]⟩ : ByteArray)) ++ a0_1) ++ (⟨#[32, 97, 116, 32]⟩ : ByteArray)) ++ t250) ++ (⟨#[44, 32, 100, 101, 112, 116, 104, 32]⟩ : ByteArray)) ++ t251).size + 7 ≤ 9223372036854775807 then ((spec_l1Num.f k a0_4).bind fun t252 => (if (((((((t249 ++ (⟨#[32]⟩ : ByteArray)) ++ a0_1) ++ (⟨#[32, 97, 116, 32]⟩ : ByteArray)) ++ t250) ++ (⟨#[44, 32, 100, 101, 112, 116, 104, 32]⟩ : ByteArray)) ++ t251) ++ (⟨#[44, 32, 102, 97, 115, 116, 32]⟩ : ByteArray)).size + t252.size ≤ 9223372036854775807 then (some ((((((((t249 ++ (⟨#[32]⟩ : ByteArray)) ++ a0_1) ++ (⟨#[32, 97, 116, 32]⟩ : ByteArray)) ++ t250) ++ (⟨#[44, 32, 100, 101, 112, 116, 104, 32]⟩ : ByteArray)) ++ t251) ++ (⟨#[44, 32, 102, 97, 115, 116, 32]⟩ : ByteArray)) ++ t252)) else (none))) else (none)) else (none))) else (none)) else (none))) else (none)) else (none)) else (none))) = some r := h
  clear h
  replace H := Option.bind_eq_some_iff.mp H
  obtain ⟨t249, A20, H⟩ := H
  replace H : (if t249.size + 1 ≤ 9223372036854775807 then (if (t249 ++ (⟨#[32]⟩ : ByteArray)).size + a0_1.size ≤ 9223372036854775807 then (if ((t249 ++ (⟨#[32]⟩ : ByteArray)) ++ a0_1).size + 4 ≤ 9223372036854775807 then ((spec_l1Num.f k a0_2).bind fun t250 => (if (((t249 ++ (⟨#[32]⟩ : ByteArray)) ++ a0_1) ++ (⟨#[32, 97, 116, 32]⟩ : ByteArray)).size + t250.size ≤ 9223372036854775807 then (if ((((t249 ++ (⟨#[32]⟩ : ByteArray)) ++ a0_1) ++ (⟨#[32, 97, 116, 32]⟩ : ByteArray)) ++ t250).size + 8 ≤ 9223372036854775807 then ((spec_l1Num.f k a0_3).bind fun t251 => (if (((((t249 ++ (⟨#[32]⟩ : ByteArray)) ++ a0_1) ++ (⟨#[32, 97, 116, 32]⟩ : ByteArray)) ++ t250) ++ (⟨#[44, 32, 100, 101, 112, 116, 104, 32]⟩ : ByteArray)).size + t251.size ≤ 9223372036854775807 then (if ((((((t249 ++ (⟨#[32]⟩ : ByteArray)) ++ a0_1) ++ (⟨#[32, 97, 116, 32]⟩ : ByteArray)) ++ t250) ++ (⟨#[44, 32, 100, 101, 112, 116, 104, 32]⟩ : ByteArray)) ++ t251).size + 7 ≤ 9223372036854775807 then ((spec_l1Num.f k a0_4).bind fun t252 => (if (((((((t249 ++ (⟨#[32]⟩ : ByteArray)) ++ a0_1) ++ (⟨#[32, 97, 116, 32]⟩ : ByteArray)) ++ t250) ++ (⟨#[44, 32, 100, 101, 112, 116, 104, 32]⟩ : ByteArray)) ++ t251) ++ (⟨#[44, 32, 102, 97, 115, 116, 32]⟩ : ByteArray)).size + t252.size ≤ 9223372036854775807 then (some ((((((((t249 ++ (⟨#[32]⟩ : ByteArray)) ++ a0_1) ++ (⟨#[32, 97, 116, 32]⟩ : ByteArray)) ++ t250) ++ (⟨#[44, 32, 100, 101, 112, 116, 104, 32]⟩ : ByteArray)) ++ t251) ++ (⟨#[44, 32, 102, 97, 115, 116, 32]⟩ : ByteArray)) ++ t252)) else (none))) else (none)) else (none))) else (none)) else (none))) else (none)) else (none)) else (none)) = some r := H
  have A2 := Aside0.mk A20
  clear A20
  by_cases c3 : t249.size + 1 ≤ 9223372036854775807
  · rw [if_pos c3] at H
    have c3b0 := eq_true c3
    have c3b1 : decide (t249.size + 1 ≤ 9223372036854775807) = true := decide_eq_true c3
    try have c3b2 : (9223372036854775807 < t249.size + 1) = False := eq_false (Nat.not_lt.2 c3)
    by_cases c4 : (t249 ++ (⟨#[32]⟩ : ByteArray)).size + a0_1.size ≤ 9223372036854775807
    · rw [if_pos c4] at H
      have c4b0 := eq_true c4
      have c4b1 : decide ((t249 ++ (⟨#[32]⟩ : ByteArray)).size + a0_1.size ≤ 9223372036854775807) = true := decide_eq_true c4
      try have c4b2 : (9223372036854775807 < (t249 ++ (⟨#[32]⟩ : ByteArray)).size + a0_1.size) = False := eq_false (Nat.not_lt.2 c4)
      by_cases c5 : ((t249 ++ (⟨#[32]⟩ : ByteArray)) ++ a0_1).size + 4 ≤ 9223372036854775807
      · rw [if_pos c5] at H
        have c5b0 := eq_true c5
        have c5b1 : decide (((t249 ++ (⟨#[32]⟩ : ByteArray)) ++ a0_1).size + 4 ≤ 9223372036854775807) = true := decide_eq_true c5
        try have c5b2 : (9223372036854775807 < ((t249 ++ (⟨#[32]⟩ : ByteArray)) ++ a0_1).size + 4) = False := eq_false (Nat.not_lt.2 c5)
        replace H := Option.bind_eq_some_iff.mp H
        obtain ⟨t250, A60, H⟩ := H
        replace H : (if (((t249 ++ (⟨#[32]⟩ : ByteArray)) ++ a0_1) ++ (⟨#[32, 97, 116, 32]⟩ : ByteArray)).size + t250.size ≤ 9223372036854775807 then (if ((((t249 ++ (⟨#[32]⟩ : ByteArray)) ++ a0_1) ++ (⟨#[32, 97, 116, 32]⟩ : ByteArray)) ++ t250).size + 8 ≤ 9223372036854775807 then ((spec_l1Num.f k a0_3).bind fun t251 => (if (((((t249 ++ (⟨#[32]⟩ : ByteArray)) ++ a0_1) ++ (⟨#[32, 97, 116, 32]⟩ : ByteArray)) ++ t250) ++ (⟨#[44, 32, 100, 101, 112, 116, 104, 32]⟩ : ByteArray)).size + t251.size ≤ 9223372036854775807 then (if ((((((t249 ++ (⟨#[32]⟩ : ByteArray)) ++ a0_1) ++ (⟨#[32, 97, 116, 32]⟩ : ByteArray)) ++ t250) ++ (⟨#[44, 32, 100, 101, 112, 116, 104, 32]⟩ : ByteArray)) ++ t251).size + 7 ≤ 9223372036854775807 then ((spec_l1Num.f k a0_4).bind fun t252 => (if (((((((t249 ++ (⟨#[32]⟩ : ByteArray)) ++ a0_1) ++ (⟨#[32, 97, 116, 32]⟩ : ByteArray)) ++ t250) ++ (⟨#[44, 32, 100, 101, 112, 116, 104, 32]⟩ : ByteArray)) ++ t251) ++ (⟨#[44, 32, 102, 97, 115, 116, 32]⟩ : ByteArray)).size + t252.size ≤ 9223372036854775807 then (some ((((((((t249 ++ (⟨#[32]⟩ : ByteArray)) ++ a0_1) ++ (⟨#[32, 97, 116, 32]⟩ : ByteArray)) ++ t250) ++ (⟨#[44, 32, 100, 101, 112, 116, 104, 32]⟩ : ByteArray)) ++ t251) ++ (⟨#[44, 32, 102, 97, 115, 116, 32]⟩ : ByteArray)) ++ t252)) else (none))) else (none)) else (none))) else (none)) else (none)) = some r := H
        have A6 := Aside0.mk A60
        clear A60
        by_cases c7 : (((t249 ++ (⟨#[32]⟩ : ByteArray)) ++ a0_1) ++ (⟨#[32, 97, 116, 32]⟩ : ByteArray)).size + t250.size ≤ 9223372036854775807
        · rw [if_pos c7] at H
          have c7b0 := eq_true c7
          have c7b1 : decide ((((t249 ++ (⟨#[32]⟩ : ByteArray)) ++ a0_1) ++ (⟨#[32, 97, 116, 32]⟩ : ByteArray)).size + t250.size ≤ 9223372036854775807) = true := decide_eq_true c7
          try have c7b2 : (9223372036854775807 < (((t249 ++ (⟨#[32]⟩ : ByteArray)) ++ a0_1) ++ (⟨#[32, 97, 116, 32]⟩ : ByteArray)).size + t250.size) = False := eq_false (Nat.not_lt.2 c7)
          by_cases c8 : ((((t249 ++ (⟨#[32]⟩ : ByteArray)) ++ a0_1) ++ (⟨#[32, 97, 116, 32]⟩ : ByteArray)) ++ t250).size + 8 ≤ 9223372036854775807
          · rw [if_pos c8] at H
            have c8b0 := eq_true c8
            have c8b1 : decide (((((t249 ++ (⟨#[32]⟩ : ByteArray)) ++ a0_1) ++ (⟨#[32, 97, 116, 32]⟩ : ByteArray)) ++ t250).size + 8 ≤ 9223372036854775807) = true := decide_eq_true c8
            try have c8b2 : (9223372036854775807 < ((((t249 ++ (⟨#[32]⟩ : ByteArray)) ++ a0_1) ++ (⟨#[32, 97, 116, 32]⟩ : ByteArray)) ++ t250).size + 8) = False := eq_false (Nat.not_lt.2 c8)
            replace H := Option.bind_eq_some_iff.mp H
            obtain ⟨t251, A90, H⟩ := H
            replace H : (if (((((t249 ++ (⟨#[32]⟩ : ByteArray)) ++ a0_1) ++ (⟨#[32, 97, 116, 32]⟩ : ByteArray)) ++ t250) ++ (⟨#[44, 32, 100, 101, 112, 116, 104, 32]⟩ : ByteArray)).size + t251.size ≤ 9223372036854775807 then (if ((((((t249 ++ (⟨#[32]⟩ : ByteArray)) ++ a0_1) ++ (⟨#[32, 97, 116, 32]⟩ : ByteArray)) ++ t250) ++ (⟨#[44, 32, 100, 101, 112, 116, 104, 32]⟩ : ByteArray)) ++ t251).size + 7 ≤ 9223372036854775807 then ((spec_l1Num.f k a0_4).bind fun t252 => (if (((((((t249 ++ (⟨#[32]⟩ : ByteArray)) ++ a0_1) ++ (⟨#[32, 97, 116, 32]⟩ : ByteArray)) ++ t250) ++ (⟨#[44, 32, 100, 101, 112, 116, 104, 32]⟩ : ByteArray)) ++ t251) ++ (⟨#[44, 32, 102, 97, 115, 116, 32]⟩ : ByteArray)).size + t252.size ≤ 9223372036854775807 then (some ((((((((t249 ++ (⟨#[32]⟩ : ByteArray)) ++ a0_1) ++ (⟨#[32, 97, 116, 32]⟩ : ByteArray)) ++ t250) ++ (⟨#[44, 32, 100, 101, 112, 116, 104, 32]⟩ : ByteArray)) ++ t251) ++ (⟨#[44, 32, 102, 97, 115, 116, 32]⟩ : ByteArray)) ++ t252)) else (none))) else (none)) else (none)) = some r := H
            have A9 := Aside0.mk A90
            clear A90
            by_cases c10 : (((((t249 ++ (⟨#[32]⟩ : ByteArray)) ++ a0_1) ++ (⟨#[32, 97, 116, 32]⟩ : ByteArray)) ++ t250) ++ (⟨#[44, 32, 100, 101, 112, 116, 104, 32]⟩ : ByteArray)).size + t251.size ≤ 9223372036854775807
            · rw [if_pos c10] at H
              have c10b0 := eq_true c10
              have c10b1 : decide ((((((t249 ++ (⟨#[32]⟩ : ByteArray)) ++ a0_1) ++ (⟨#[32, 97, 116, 32]⟩ : ByteArray)) ++ t250) ++ (⟨#[44, 32, 100, 101, 112, 116, 104, 32]⟩ : ByteArray)).size + t251.size ≤ 9223372036854775807) = true := decide_eq_true c10
              try have c10b2 : (9223372036854775807 < (((((t249 ++ (⟨#[32]⟩ : ByteArray)) ++ a0_1) ++ (⟨#[32, 97, 116, 32]⟩ : ByteArray)) ++ t250) ++ (⟨#[44, 32, 100, 101, 112, 116, 104, 32]⟩ : ByteArray)).size + t251.size) = False := eq_false (Nat.not_lt.2 c10)
              by_cases c11 : ((((((t249 ++ (⟨#[32]⟩ : ByteArray)) ++ a0_1) ++ (⟨#[32, 97, 116, 32]⟩ : ByteArray)) ++ t250) ++ (⟨#[44, 32, 100, 101, 112, 116, 104, 32]⟩ : ByteArray)) ++ t251).size + 7 ≤ 9223372036854775807
              · rw [if_pos c11] at H
                have c11b0 := eq_true c11
                have c11b1 : decide (((((((t249 ++ (⟨#[32]⟩ : ByteArray)) ++ a0_1) ++ (⟨#[32, 97, 116, 32]⟩ : ByteArray)) ++ t250) ++ (⟨#[44, 32, 100, 101, 112, 116, 104, 32]⟩ : ByteArray)) ++ t251).size + 7 ≤ 9223372036854775807) = true := decide_eq_true c11
                try have c11b2 : (9223372036854775807 < ((((((t249 ++ (⟨#[32]⟩ : ByteArray)) ++ a0_1) ++ (⟨#[32, 97, 116, 32]⟩ : ByteArray)) ++ t250) ++ (⟨#[44, 32, 100, 101, 112, 116, 104, 32]⟩ : ByteArray)) ++ t251).size + 7) = False := eq_false (Nat.not_lt.2 c11)
                replace H := Option.bind_eq_some_iff.mp H
                obtain ⟨t252, A120, H⟩ := H
                replace H : (if (((((((t249 ++ (⟨#[32]⟩ : ByteArray)) ++ a0_1) ++ (⟨#[32, 97, 116, 32]⟩ : ByteArray)) ++ t250) ++ (⟨#[44, 32, 100, 101, 112, 116, 104, 32]⟩ : ByteArray)) ++ t251) ++ (⟨#[44, 32, 102, 97, 115, 116, 32]⟩ : ByteArray)).size + t252.size ≤ 9223372036854775807 then (some ((((((((t249 ++ (⟨#[32]⟩ : ByteArray)) ++ a0_1) ++ (⟨#[32, 97, 116, 32]⟩ : ByteArray)) ++ t250) ++ (⟨#[44, 32, 100, 101, 112, 116, 104, 32]⟩ : ByteArray)) ++ t251) ++ (⟨#[44, 32, 102, 97, 115, 116, 32]⟩ : ByteArray)) ++ t252)) else (none)) = some r := H
                have A12 := Aside0.mk A120
                clear A120
                by_cases c13 : (((((((t249 ++ (⟨#[32]⟩ : ByteArray)) ++ a0_1) ++ (⟨#[32, 97, 116, 32]⟩ : ByteArray)) ++ t250) ++ (⟨#[44, 32, 100, 101, 112, 116, 104, 32]⟩ : ByteArray)) ++ t251) ++ (⟨#[44, 32, 102, 97, 115, 116, 32]⟩ : ByteArray)).size + t252.size ≤ 9223372036854775807
                · rw [if_pos c13] at H
                  have c13b0 := eq_true c13
                  have c13b1 : decide ((((((((t249 ++ (⟨#[32]⟩ : ByteArray)) ++ a0_1) ++ (⟨#[32, 97, 116, 32]⟩ : ByteArray)) ++ t250) ++ (⟨#[44, 32, 100, 101, 112, 116, 104, 32]⟩ : ByteArray)) ++ t251) ++ (⟨#[44, 32, 102, 97, 115, 116, 32]⟩ : ByteArray)).size + t252.size ≤ 9223372036854775807) = true := decide_eq_true c13
                  try have c13b2 : (9223372036854775807 < (((((((t249 ++ (⟨#[32]⟩ : ByteArray)) ++ a0_1) ++ (⟨#[32, 97, 116, 32]⟩ : ByteArray)) ++ t250) ++ (⟨#[44, 32, 100, 101, 112, 116, 104, 32]⟩ : ByteArray)) ++ t251) ++ (⟨#[44, 32, 102, 97, 115, 116, 32]⟩ : ByteArray)).size + t252.size) = False := eq_false (Nat.not_lt.2 c13)
                  obtain rfl := Option.some.inj H
                  go_enter Tryd.func61, Tryd.ntmps61
                  try go_wp2_with (first | ((with_reducible refine gate_dst (N := 1) rfl ?_); refine box_event ?hg (N := 1) ?hd (cs := #[.int .i64 a0_0, .string a0_1, .int .i64 a0_2, .int .i64 a0_3, .int .i64 a0_4]) (t := 26) ?hr ?_; (case hd => rfl); (case hg => rfl); (case hr => first | (go_simp; done) | (go_simp; rfl)); intro gb248 hg w14 hbox hb; have n0_ := Aside0.mk (below_step (by repeat (first | (with_reducible first | exact HB.out | apply below_alloc | apply pw_below_drewN | apply below_drew1) | exact HB.out)) hb); have n1_ := Aside0.mk (hbox); have n2_ := Aside0.mk ((by rw [hg]; exact (below_size (by repeat (first | (with_reducible first | exact HB.out | apply below_alloc | apply pw_below_drewN | apply below_drew1) | exact HB.out))) : w.heap.size ≤ gb248)); have n3_ := Aside0.mk ((by rw [hg]; exact (below_size (by repeat (first | (with_reducible first | exact HB.out | apply below_alloc | apply pw_below_drewN | apply below_drew1) | exact HB.out))) : w.heap.size ≤ gb248)); clear HB; have HB := n0_; have BK248 := n1_; have GW248 := n2_; have GE248 := n3_; clear n0_ n1_ n2_ n3_; clear hb hbox hg))
                  have n0_ := Aside0.mk (blk_drew BK248.out)
                  have n1_ := Aside0.mk (below_drew1 HB.out)
                  clear BK248
                  clear HB
                  have BK248 := n0_
                  have HB := n1_
                  clear n0_ n1_
                  refine start_ (n := 23) (S := fun w' => w'.cell? ⟨gb248, 0, none⟩ = some (.int .i64 a0_0) ∧ w'.cell? ⟨gb248, 1, none⟩ = some (.string a0_1) ∧ w'.cell? ⟨gb248, 2, none⟩ = some (.int .i64 a0_2) ∧ w'.cell? ⟨gb248, 3, none⟩ = some (.int .i64 a0_3) ∧ w'.cell? ⟨gb248, 4, none⟩ = some (.int .i64 a0_4)) (ds := []) #[false, false, false, false, false, false, false, false, false, false, false, false, false, false, false, false, false, false, false, false, false, false, false] (by kernel_rfl) rfl rfl ⟨(blk_cell BK248.out 0).trans rfl, (blk_cell BK248.out 1).trans rfl, (blk_cell BK248.out 2).trans rfl, (blk_cell BK248.out 3).trans rfl, (blk_cell BK248.out 4).trans rfl⟩ (fun hHeld => ?_); refine with_tabW spec_l3Text.tab1 spec_l3Text.bits1 (fun HT_ HW_ => ?_)
                  generalize w14.drew = w15 at BK248 HB hHeld ⊢
                  refine pure_ (i := 0) (N := some 3) (v := ?_) (a' := ?_) #[true, false, false, false, false, false, false, false, false, false, false, false, false, false, false, false, false, false, false, false, false, false, false] rfl rfl (any_of HT_.out (by kernel_rfl)) (fun _ _ _ h => h) (Or.inl ⟨by rfl, ?_⟩) ?_ ?_
                  rotate_left
                  · intro w'
                    go_simp
                    first
                      | with_reducible rfl
                      | (rw [if_neg (by simp only [ByteArray.size_append, zz1, zz4, zz8, zz7] at *; omega)])
                  rotate_left
                  · simp only [Act.put, List.setIfInBounds_toArray, List.set_cons_zero, List.set_cons_succ, i64_w, i32_w]
                    rfl
                  refine pure_ (i := 4) (N := some 7) (v := ?_) (a' := ?_) #[true, false, false, false, true, false, false, false, false, false, false, false, false, false, false, false, false, false, false, false, false, false, false] rfl rfl (any_of HT_.out (by kernel_rfl)) (fun _ _ _ h => h) (Or.inl ⟨by rfl, ?_⟩) ?_ ?_
                  rotate_left
                  · intro w'
                    go_simp
                    first
                      | with_reducible rfl
                      | (rw [if_neg (by simp only [ByteArray.size_append, zz1, zz4, zz8, zz7] at *; omega)])
                  rotate_left
                  · simp only [Act.put, List.setIfInBounds_toArray, List.set_cons_zero, List.set_cons_succ, i64_w, i32_w]
                    rfl
                  refine pure_ (i := 8) (N := some 11) (v := ?_) (a' := ?_) #[true, false, false, false, true, false, false, false, true, false, false, false, false, false, false, false, false, false, false, false, false, false, false] rfl rfl (any_of HT_.out (by kernel_rfl)) (fun _ _ _ h => h) (Or.inl ⟨by rfl, ?_⟩) ?_ ?_
                  rotate_left
                  · intro w'
                    go_simp
                    first
                      | with_reducible rfl
                      | (rw [if_neg (by simp only [ByteArray.size_append, zz1, zz4, zz8, zz7] at *; omega)])
                  rotate_left
                  · simp only [Act.put, List.setIfInBounds_toArray, List.set_cons_zero, List.set_cons_succ, i64_w, i32_w]
                    rfl
                  refine pure_ (i := 13) (N := some 16) (v := ?_) (a' := ?_) #[true, false, false, false, true, false, false, false, true, false, false, false, false, true, false, false, false, false, false, false, false, false, false] rfl rfl (any_of HT_.out (by kernel_rfl)) (fun _ _ _ h => h) (Or.inl ⟨by rfl, ?_⟩) ?_ ?_
                  rotate_left
                  · intro w'
                    go_simp
                    first
                      | with_reducible rfl
                      | (rw [if_neg (by simp only [ByteArray.size_append, zz1, zz4, zz8, zz7] at *; omega)])
                  rotate_left
                  · simp only [Act.put, List.setIfInBounds_toArray, List.set_cons_zero, List.set_cons_succ, i64_w, i32_w]
                    rfl
                  refine pure_ (i := 18) (N := some 21) (v := ?_) (a' := ?_) #[true, false, false, false, true, false, false, false, true, false, false, false, false, true, false, false, false, false, true, false, false, false, false] rfl rfl (any_of HT_.out (by kernel_rfl)) (fun _ _ _ h => h) (Or.inl ⟨by rfl, ?_⟩) ?_ ?_
                  rotate_left
                  · intro w'
                    go_simp
                    first
                      | with_reducible rfl
                      | (rw [if_neg (by simp only [ByteArray.size_append, zz1, zz4, zz8, zz7] at *; omega)])
                  rotate_left
                  · simp only [Act.put, List.setIfInBounds_toArray, List.set_cons_zero, List.set_cons_succ, i64_w, i32_w]
                    rfl
                  refine take_ (i := 1) (N := some 4) (v := ?_) (a' := ?_) #[true, true, false, false, true, false, false, false, true, false, false, false, false, true, false, false, false, false, true, false, false, false, false] rfl rfl (take_ofW HT_.out HW_.out (by kernel_rfl)) (fun _ _ _ h => h) (Or.inl ⟨by rfl, ?_⟩) hHeld ?_ ?_
                  rotate_left
                  · rintro w' ⟨s0, s1, s2, s3, s4⟩
                    go_simp
                    with_reducible rfl
                  rotate_left
                  · simp only [Act.put, List.setIfInBounds_toArray, List.set_cons_zero, List.set_cons_succ, i64_w, i32_w]
                    rfl
                  refine take_ (i := 5) (N := some 8) (v := ?_) (a' := ?_) #[true, true, false, false, true, true, false, false, true, false, false, false, false, true, false, false, false, false, true, false, false, false, false] rfl rfl (take_ofW HT_.out HW_.out (by kernel_rfl)) (fun _ _ _ h => h) (Or.inl ⟨by rfl, ?_⟩) hHeld ?_ ?_
                  rotate_left
                  · rintro w' ⟨s0, s1, s2, s3, s4⟩
                    go_simp
                    with_reducible rfl
                  rotate_left
                  · simp only [Act.put, List.setIfInBounds_toArray, List.set_cons_zero, List.set_cons_succ, i64_w, i32_w]
                    rfl
                  refine take_ (i := 9) (N := some 12) (v := ?_) (a' := ?_) #[true, true, false, false, true, true, false, false, true, true, false, false, false, true, false, false, false, false, true, false, false, false, false] rfl rfl (take_ofW HT_.out HW_.out (by kernel_rfl)) (fun _ _ _ h => h) (Or.inl ⟨by rfl, ?_⟩) hHeld ?_ ?_
                  rotate_left
                  · rintro w' ⟨s0, s1, s2, s3, s4⟩
                    go_simp
                    with_reducible rfl
                  rotate_left
                  · simp only [Act.put, List.setIfInBounds_toArray, List.set_cons_zero, List.set_cons_succ, i64_w, i32_w]
                    rfl
                  refine take_ (i := 14) (N := some 17) (v := ?_) (a' := ?_) #[true, true, false, false, true, true, false, false, true, true, false, false, false, true, true, false, false, false, true, false, false, false, false] rfl rfl (take_ofW HT_.out HW_.out (by kernel_rfl)) (fun _ _ _ h => h) (Or.inl ⟨by rfl, ?_⟩) hHeld ?_ ?_
                  rotate_left
                  · rintro w' ⟨s0, s1, s2, s3, s4⟩
                    go_simp
                    with_reducible rfl
                  rotate_left
                  · simp only [Act.put, List.setIfInBounds_toArray, List.set_cons_zero, List.set_cons_succ, i64_w, i32_w]
                    rfl
                  refine take_ (i := 19) (N := some 22) (v := ?_) (a' := ?_) #[true, true, false, false, true, true, false, false, true, true, false, false, false, true, true, false, false, false, true, true, false, false, false] rfl rfl (take_ofW HT_.out HW_.out (by kernel_rfl)) (fun _ _ _ h => h) (Or.inl ⟨by rfl, ?_⟩) hHeld ?_ ?_
                  rotate_left
                  · rintro w' ⟨s0, s1, s2, s3, s4⟩
                    go_simp
                    with_reducible rfl
                  rotate_left
                  · simp only [Act.put, List.setIfInBounds_toArray, List.set_cons_zero, List.set_cons_succ, i64_w, i32_w]
                    rfl
                  refine one_ (i := 2) (N := some 5) #[true, true, true, false, true, true, false, false, true, true, false, false, false, true, true, false, false, false, true, true, false, false, false] rfl rfl (one_of HT_.out (by kernel_rfl)) (by decide) (fun K hK => ?_)
                  refine goes_ Tryd.func74 (by kernel_rfl) rfl #[.int .i64 a0_0] (by rfl) rfl rfl (by (try simp only [List.map_toArray, List.map_cons, List.map_nil]); first | done | rfl | (simp only [List.length_drop, List.length_take]; rfl)) ?_
                  with_reducible refine (spec_l1Num.calls k a0_0 t249 _ A2.out).mono ?_
                  rintro e w16 ⟨rfl, hb⟩
                  refine ⟨_, rfl, ?_⟩
                  have n0_ := Aside0.mk (blk_below (g := gb248) (o := .cells #[.int .i64 a0_0, .string a0_1, .int .i64 a0_2, .int .i64 a0_3, .int .i64 a0_4] 26 (0, 0)) (by (with_reducible repeat (first | refine blk_drewN ?_ _ | refine blk_drew ?_ | refine blk_alloc ?_ _)); exact BK248.out) hb)
                  have n1_ := Aside0.mk (below_step (by repeat (first | (with_reducible first | exact HB.out | apply below_alloc | apply pw_below_drewN | apply below_drew1 | refine below_set ?_ GE248.out) | exact HB.out)) hb)
                  clear BK248
                  clear HB
                  have BK248 := n0_
                  have HB := n1_
                  clear n0_ n1_
                  (try clear hb)
                  (try clear hb2)
                  (try clear hk)
                  (try clear hi)
                  refine hK.out _ _ ⟨(blk_cell BK248.out 0).trans rfl, (blk_cell BK248.out 1).trans rfl, (blk_cell BK248.out 2).trans rfl, (blk_cell BK248.out 3).trans rfl, (blk_cell BK248.out 4).trans rfl⟩ (fun hHeld => ?_)
                  clear hK K
                  refine norm_ (a' := ?_) ?_ ?_
                  rotate_left
                  · show Act.put _ (some 5) _ = _
                    simp only [Act.put, List.setIfInBounds_toArray, List.set_cons_zero, List.set_cons_succ, i64_w, i32_w]
                    rfl
                  refine pure_ (i := 3) (N := some 6) (v := ?_) (a' := ?_) #[true, true, true, true, true, true, false, false, true, true, false, false, false, true, true, false, false, false, true, true, false, false, false] rfl rfl (any_of HT_.out (by kernel_rfl)) (fun _ _ _ h => h) (Or.inl ⟨by rfl, ?_⟩) ?_ ?_
                  rotate_left
                  · intro w'
                    go_simp
                    first
                      | with_reducible rfl
                      | (rw [if_neg (by simp only [ByteArray.size_append, zz1, zz4, zz8, zz7] at *; omega)])
                  rotate_left
                  · simp only [Act.put, List.setIfInBounds_toArray, List.set_cons_zero, List.set_cons_succ, i64_w, i32_w]
                    rfl
                  refine pure_ (i := 6) (N := some 9) (v := ?_) (a' := ?_) #[true, true, true, true, true, true, true, false, true, true, false, false, false, true, true, false, false, false, true, true, false, false, false] rfl rfl (any_of HT_.out (by kernel_rfl)) (fun _ _ _ h => h) (Or.inl ⟨by rfl, ?_⟩) ?_ ?_
                  rotate_left
                  · intro w'
                    go_simp
                    first
                      | with_reducible rfl
                      | (rw [if_neg (by simp only [ByteArray.size_append, zz1, zz4, zz8, zz7] at *; omega)])
                  rotate_left
                  · simp only [Act.put, List.setIfInBounds_toArray, List.set_cons_zero, List.set_cons_succ, i64_w, i32_w]
                    rfl
                  refine pure_ (i := 7) (N := some 10) (v := ?_) (a' := ?_) #[true, true, true, true, true, true, true, true, true, true, false, false, false, true, true, false, false, false, true, true, false, false, false] rfl rfl (any_of HT_.out (by kernel_rfl)) (fun _ _ _ h => h) (Or.inl ⟨by rfl, ?_⟩) ?_ ?_
                  rotate_left
                  · intro w'
                    go_simp
                    first
                      | with_reducible rfl
                      | (rw [if_neg (by simp only [ByteArray.size_append, zz1, zz4, zz8, zz7] at *; omega)])
                  rotate_left
                  · simp only [Act.put, List.setIfInBounds_toArray, List.set_cons_zero, List.set_cons_succ, i64_w, i32_w]
                    rfl
                  refine one_ (i := 10) (N := some 13) #[true, true, true, true, true, true, true, true, true, true, true, false, false, true, true, false, false, false, true, true, false, false, false] rfl rfl (one_of HT_.out (by kernel_rfl)) (by decide) (fun K hK => ?_)
                  refine goes_ Tryd.func74 (by kernel_rfl) rfl #[.int .i64 a0_2] (by rfl) rfl rfl (by (try simp only [List.map_toArray, List.map_cons, List.map_nil]); first | done | rfl | (simp only [List.length_drop, List.length_take]; rfl)) ?_
                  with_reducible refine (spec_l1Num.calls k a0_2 t250 _ A6.out).mono ?_
                  rintro e w17 ⟨rfl, hb⟩
                  refine ⟨_, rfl, ?_⟩
                  have n0_ := Aside0.mk (blk_below (g := gb248) (o := .cells #[.int .i64 a0_0, .string a0_1, .int .i64 a0_2, .int .i64 a0_3, .int .i64 a0_4] 26 (0, 0)) (by (with_reducible repeat (first | refine blk_drewN ?_ _ | refine blk_drew ?_ | refine blk_alloc ?_ _)); exact BK248.out) hb)
                  have n1_ := Aside0.mk (below_step (by repeat (first | (with_reducible first | exact HB.out | apply below_alloc | apply pw_below_drewN | apply below_drew1 | refine below_set ?_ GE248.out) | exact HB.out)) hb)
                  clear BK248
                  clear HB
                  have BK248 := n0_
                  have HB := n1_
                  clear n0_ n1_
                  (try clear hb)
                  (try clear hb2)
                  (try clear hk)
                  (try clear hi)
                  refine hK.out _ _ ⟨(blk_cell BK248.out 0).trans rfl, (blk_cell BK248.out 1).trans rfl, (blk_cell BK248.out 2).trans rfl, (blk_cell BK248.out 3).trans rfl, (blk_cell BK248.out 4).trans rfl⟩ (fun hHeld => ?_)
                  clear hK K
                  refine norm_ (a' := ?_) ?_ ?_
                  rotate_left
                  · show Act.put _ (some 13) _ = _
                    simp only [Act.put, List.setIfInBounds_toArray, List.set_cons_zero, List.set_cons_succ, i64_w, i32_w]
                    rfl
                  refine pure_ (i := 11) (N := some 14) (v := ?_) (a' := ?_) #[true, true, true, true, true, true, true, true, true, true, true, true, false, true, true, false, false, false, true, true, false, false, false] rfl rfl (any_of HT_.out (by kernel_rfl)) (fun _ _ _ h => h) (Or.inl ⟨by rfl, ?_⟩) ?_ ?_
                  rotate_left
                  · intro w'
                    go_simp
                    first
                      | with_reducible rfl
                      | (rw [if_neg (by simp only [ByteArray.size_append, zz1, zz4, zz8, zz7] at *; omega)])
                  rotate_left
                  · simp only [Act.put, List.setIfInBounds_toArray, List.set_cons_zero, List.set_cons_succ, i64_w, i32_w]
                    rfl
                  refine pure_ (i := 12) (N := some 15) (v := ?_) (a' := ?_) #[true, true, true, true, true, true, true, true, true, true, true, true, true, true, true, false, false, false, true, true, false, false, false] rfl rfl (any_of HT_.out (by kernel_rfl)) (fun _ _ _ h => h) (Or.inl ⟨by rfl, ?_⟩) ?_ ?_
                  rotate_left
                  · intro w'
                    go_simp
                    first
                      | with_reducible rfl
                      | (rw [if_neg (by simp only [ByteArray.size_append, zz1, zz4, zz8, zz7] at *; omega)])
                  rotate_left
                  · simp only [Act.put, List.setIfInBounds_toArray, List.set_cons_zero, List.set_cons_succ, i64_w, i32_w]
                    rfl
                  refine one_ (i := 15) (N := some 18) #[true, true, true, true, true, true, true, true, true, true, true, true, true, true, true, true, false, false, true, true, false, false, false] rfl rfl (one_of HT_.out (by kernel_rfl)) (by decide) (fun K hK => ?_)
                  refine goes_ Tryd.func74 (by kernel_rfl) rfl #[.int .i64 a0_3] (by rfl) rfl rfl (by (try simp only [List.map_toArray, List.map_cons, List.map_nil]); first | done | rfl | (simp only [List.length_drop, List.length_take]; rfl)) ?_
                  with_reducible refine (spec_l1Num.calls k a0_3 t251 _ A9.out).mono ?_
                  rintro e w18 ⟨rfl, hb⟩
                  refine ⟨_, rfl, ?_⟩
                  have n0_ := Aside0.mk (blk_below (g := gb248) (o := .cells #[.int .i64 a0_0, .string a0_1, .int .i64 a0_2, .int .i64 a0_3, .int .i64 a0_4] 26 (0, 0)) (by (with_reducible repeat (first | refine blk_drewN ?_ _ | refine blk_drew ?_ | refine blk_alloc ?_ _)); exact BK248.out) hb)
                  have n1_ := Aside0.mk (below_step (by repeat (first | (with_reducible first | exact HB.out | apply below_alloc | apply pw_below_drewN | apply below_drew1 | refine below_set ?_ GE248.out) | exact HB.out)) hb)
                  clear BK248
                  clear HB
                  have BK248 := n0_
                  have HB := n1_
                  clear n0_ n1_
                  (try clear hb)
                  (try clear hb2)
                  (try clear hk)
                  (try clear hi)
                  refine hK.out _ _ ⟨(blk_cell BK248.out 0).trans rfl, (blk_cell BK248.out 1).trans rfl, (blk_cell BK248.out 2).trans rfl, (blk_cell BK248.out 3).trans rfl, (blk_cell BK248.out 4).trans rfl⟩ (fun hHeld => ?_)
                  clear hK K
                  refine norm_ (a' := ?_) ?_ ?_
                  rotate_left
                  · show Act.put _ (some 18) _ = _
                    simp only [Act.put, List.setIfInBounds_toArray, List.set_cons_zero, List.set_cons_succ, i64_w, i32_w]
                    rfl
                  refine pure_ (i := 16) (N := some 19) (v := ?_) (a' := ?_) #[true, true, true, true, true, true, true, true, true, true, true, true, true, true, true, true, true, false, true, true, false, false, false] rfl rfl (any_of HT_.out (by kernel_rfl)) (fun _ _ _ h => h) (Or.inl ⟨by rfl, ?_⟩) ?_ ?_
                  rotate_left
                  · intro w'
                    go_simp
                    first
                      | with_reducible rfl
                      | (rw [if_neg (by simp only [ByteArray.size_append, zz1, zz4, zz8, zz7] at *; omega)])
                  rotate_left
                  · simp only [Act.put, List.setIfInBounds_toArray, List.set_cons_zero, List.set_cons_succ, i64_w, i32_w]
                    rfl
                  refine pure_ (i := 17) (N := some 20) (v := ?_) (a' := ?_) #[true, true, true, true, true, true, true, true, true, true, true, true, true, true, true, true, true, true, true, true, false, false, false] rfl rfl (any_of HT_.out (by kernel_rfl)) (fun _ _ _ h => h) (Or.inl ⟨by rfl, ?_⟩) ?_ ?_
                  rotate_left
                  · intro w'
                    go_simp
                    first
                      | with_reducible rfl
                      | (rw [if_neg (by simp only [ByteArray.size_append, zz1, zz4, zz8, zz7] at *; omega)])
                  rotate_left
                  · simp only [Act.put, List.setIfInBounds_toArray, List.set_cons_zero, List.set_cons_succ, i64_w, i32_w]
                    rfl
                  refine one_ (i := 20) (N := some 23) #[true, true, true, true, true, true, true, true, true, true, true, true, true, true, true, true, true, true, true, true, true, false, false] rfl rfl (one_of HT_.out (by kernel_rfl)) (by decide) (fun K hK => ?_)
                  refine goes_ Tryd.func74 (by kernel_rfl) rfl #[.int .i64 a0_4] (by rfl) rfl rfl (by (try simp only [List.map_toArray, List.map_cons, List.map_nil]); first | done | rfl | (simp only [List.length_drop, List.length_take]; rfl)) ?_
                  with_reducible refine (spec_l1Num.calls k a0_4 t252 _ A12.out).mono ?_
                  rintro e w19 ⟨rfl, hb⟩
                  refine ⟨_, rfl, ?_⟩
                  have n0_ := Aside0.mk (blk_below (g := gb248) (o := .cells #[.int .i64 a0_0, .string a0_1, .int .i64 a0_2, .int .i64 a0_3, .int .i64 a0_4] 26 (0, 0)) (by (with_reducible repeat (first | refine blk_drewN ?_ _ | refine blk_drew ?_ | refine blk_alloc ?_ _)); exact BK248.out) hb)
                  have n1_ := Aside0.mk (below_step (by repeat (first | (with_reducible first | exact HB.out | apply below_alloc | apply pw_below_drewN | apply below_drew1 | refine below_set ?_ GE248.out) | exact HB.out)) hb)
                  clear BK248
                  clear HB
                  have BK248 := n0_
                  have HB := n1_
                  clear n0_ n1_
                  (try clear hb)
                  (try clear hb2)
                  (try clear hk)
                  (try clear hi)
                  refine hK.out _ _ ⟨(blk_cell BK248.out 0).trans rfl, (blk_cell BK248.out 1).trans rfl, (blk_cell BK248.out 2).trans rfl, (blk_cell BK248.out 3).trans rfl, (blk_cell BK248.out 4).trans rfl⟩ (fun hHeld => ?_)
                  clear hK K
                  refine norm_ (a' := ?_) ?_ ?_
                  rotate_left
                  · show Act.put _ (some 23) _ = _
                    simp only [Act.put, List.setIfInBounds_toArray, List.set_cons_zero, List.set_cons_succ, i64_w, i32_w]
                    rfl
                  refine pure_ (i := 21) (N := some 24) (v := ?_) (a' := ?_) #[true, true, true, true, true, true, true, true, true, true, true, true, true, true, true, true, true, true, true, true, true, true, false] rfl rfl (any_of HT_.out (by kernel_rfl)) (fun _ _ _ h => h) (Or.inl ⟨by rfl, ?_⟩) ?_ ?_
                  rotate_left
                  · intro w'
                    go_simp
                    first
                      | with_reducible rfl
                      | (rw [if_neg (by simp only [ByteArray.size_append, zz1, zz4, zz8, zz7] at *; omega)])
                  rotate_left
                  · simp only [Act.put, List.setIfInBounds_toArray, List.set_cons_zero, List.set_cons_succ, i64_w, i32_w]
                    rfl
                  refine pure_ (i := 22) (N := some 2) (v := ?_) (a' := ?_) #[true, true, true, true, true, true, true, true, true, true, true, true, true, true, true, true, true, true, true, true, true, true, true] rfl rfl (any_of HT_.out (by kernel_rfl)) (fun _ _ _ h => h) (Or.inl ⟨by rfl, ?_⟩) ?_ ?_
                  rotate_left
                  · intro w'
                    go_simp
                    first
                      | with_reducible rfl
                      | (rw [if_neg (by simp only [ByteArray.size_append, zz1, zz4, zz8, zz7] at *; omega)])
                  rotate_left
                  · simp only [Act.put, List.setIfInBounds_toArray, List.set_cons_zero, List.set_cons_succ, i64_w, i32_w]
                    rfl
                  refine done_ (done_of HT_.out (by kernel_rfl)) ?_
                  try go_wp2
                  go_ret
                  exact ⟨by first | rfl | (simp [errW_none, errW_some] <;> rfl) | (simp [*, errW_none, errW_some] <;> rfl), by repeat (first | (with_reducible first | exact HB.out | apply below_alloc | apply pw_below_drewN | apply below_drew1 | refine below_set ?_ GE248.out) | exact HB.out)⟩
                · rw [if_neg c13] at H
                  exact absurd H (by simp)
              · rw [if_neg c11] at H
                exact absurd H (by simp)
            · rw [if_neg c10] at H
              exact absurd H (by simp)
          · rw [if_neg c8] at H
            exact absurd H (by simp)
        · rw [if_neg c7] at H
          exact absurd H (by simp)
      · rw [if_neg c5] at H
        exact absurd H (by simp)
    · rw [if_neg c4] at H
      exact absurd H (by simp)
  · rw [if_neg c3] at H
    exact absurd H (by simp)

/-! ### spec_ShadeText: function 32 -/
def spec_ShadeText.f (k : Nat) (a0_0 : Int) (a0_1 : ByteArray) (a0_2 : Int) (a0_3 : Int) (a0_4 : Int) : Option (ByteArray × Bool) := (spec_l3One.f k a0_0 a0_1 a0_2 a0_3 a0_4).bind fun t254 => (if t254 = true then ((spec_l3Text.f k a0_0 a0_1 a0_2 a0_3 a0_4).bind fun t255 => (some (t255, true))) else (some ((⟨#[]⟩ : ByteArray), false)))
theorem spec_ShadeText.mono : ∀ a0 a1 a2 a3 a4 k, LeO (spec_ShadeText.f k a0 a1 a2 a3 a4) (spec_ShadeText.f (k + 1) a0 a1 a2 a3 a4) := by
  intro a0 a1 a2 a3 a4 k
  unfold spec_ShadeText.f
  repeat' first
      | (with_reducible exact spec_l3One.mono _ _ _ _ _ _)
      | (with_reducible exact spec_l3Text.mono _ _ _ _ _ _)
      | (with_reducible exact LeO.refl _)
      | (with_reducible exact LeO.none _)
      | (with_reducible refine LeO.ite ?_ ?_)
      | (with_reducible refine LeO.bind ?_ (fun _ => ?_))
      | exact spec_l3One.mono _ _ _ _ _ _
      | exact spec_l3Text.mono _ _ _ _ _ _
      | exact LeO.none _
      | refine LeO.ite ?_ ?_
      | refine LeO.bind ?_ (fun _ => ?_)
set_option maxHeartbeats 8000000 in
set_option maxRecDepth 100000 in
theorem spec_ShadeText.calls (k : Nat) (a0_0 : Int) (a0_1 : ByteArray) (a0_2 : Int) (a0_3 : Int) (a0_4 : Int) (r1 : ByteArray) (r2 : Bool) (w : World) (h : spec_ShadeText.f k a0_0 a0_1 a0_2 a0_3 a0_4 = some (r1, r2)) :
    Calls Tryd.prog 32 #[.agg #[.int .i64 a0_0, .string a0_1, .int .i64 a0_2, .int .i64 a0_3, .int .i64 a0_4]] w fun e w' => e = .returned (.tuple #[.string r1, .bool r2]) ∧ Below w.heap.size w w' := by
  have hu26 := Tryd.underlying26
  have HB := Aside0.mk (Below.refl w.heap.size w)
  have H : ((spec_l3One.f k a0_0 a0_1 a0_2 a0_3 a0_4).bind fun t254 => (if t254 = true then ((spec_l3Text.f k a0_0 a0_1 a0_2 a0_3 a0_4).bind fun t255 => (some (t255, true))) else (some ((⟨#[]⟩ : ByteArray), false)))) = some (r1, r2) := h
  clear h
  replace H := Option.bind_eq_some_iff.mp H
  obtain ⟨t254, A20, H⟩ := H
  replace H : (if t254 = true then ((spec_l3Text.f k a0_0 a0_1 a0_2 a0_3 a0_4).bind fun t255 => (some (t255, true))) else (some ((⟨#[]⟩ : ByteArray), false))) = some (r1, r2) := H
  have A2 := Aside0.mk A20
  clear A20
  by_cases c3 : t254 = true
  · subst c3
    have H1 : ((spec_l3Text.f k a0_0 a0_1 a0_2 a0_3 a0_4).bind fun t255 => (some (t255, true))) = some (r1, r2) := by rw [if_pos rfl] at H; exact H
    clear H
    have H := H1
    clear H1
    replace H := Option.bind_eq_some_iff.mp H
    obtain ⟨t255, A40, H⟩ := H
    replace H : (some (t255, true)) = some (r1, r2) := H
    have A4 := Aside0.mk A40
    clear A40
    simp only [Option.some.injEq, Prod.mk.injEq] at H
    obtain ⟨rfl, rfl⟩ := H
    go_enter Tryd.func32, Tryd.ntmps32
    go_wp2_with (first | ((with_reducible refine gate_dst (N := 1) rfl ?_); refine box_event ?hg (N := 1) ?hd (cs := #[.int .i64 a0_0, .string a0_1, .int .i64 a0_2, .int .i64 a0_3, .int .i64 a0_4]) (t := 26) ?hr ?_; (case hd => rfl); (case hg => rfl); (case hr => first | (go_simp; done) | (go_simp; rfl)); intro gb253 hg w5 hbox hb; have n0_ := Aside0.mk (below_step (by repeat (first | (with_reducible first | exact HB.out | apply below_alloc | apply pw_below_drewN | apply below_drew1) | exact HB.out)) hb); have n1_ := Aside0.mk (hbox); have n2_ := Aside0.mk ((by rw [hg]; exact (below_size (by repeat (first | (with_reducible first | exact HB.out | apply below_alloc | apply pw_below_drewN | apply below_drew1) | exact HB.out))) : w.heap.size ≤ gb253)); have n3_ := Aside0.mk ((by rw [hg]; exact (below_size (by repeat (first | (with_reducible first | exact HB.out | apply below_alloc | apply pw_below_drewN | apply below_drew1) | exact HB.out))) : w.heap.size ≤ gb253)); clear HB; have HB := n0_; have BK253 := n1_; have GW253 := n2_; have GE253 := n3_; clear n0_ n1_ n2_ n3_; clear hb hbox hg; have hcz6_0 : w5.cell? ⟨gb253, 0, none⟩ = some (.int .i64 a0_0) := (blk_cell BK253.out 0).trans rfl; have hcz6_1 : w5.cell? ⟨gb253, 1, none⟩ = some (.string a0_1) := (blk_cell BK253.out 1).trans rfl; have hcz6_2 : w5.cell? ⟨gb253, 2, none⟩ = some (.int .i64 a0_2) := (blk_cell BK253.out 2).trans rfl; have hcz6_3 : w5.cell? ⟨gb253, 3, none⟩ = some (.int .i64 a0_3) := (blk_cell BK253.out 3).trans rfl; have hcz6_4 : w5.cell? ⟨gb253, 4, none⟩ = some (.int .i64 a0_4) := (blk_cell BK253.out 4).trans rfl; have hfz6_0 := blk_frozen BK253.out 0; have hfz6_1 := blk_frozen BK253.out 1; have hfz6_2 := blk_frozen BK253.out 2; have hfz6_3 := blk_frozen BK253.out 3; have hfz6_4 := blk_frozen BK253.out 4) | ((with_reducible refine gate_callee (f := 34) rfl ?_); refine goesL_ (some 5) rfl rfl Tryd.func34 (by kernel_rfl) rfl #[.agg #[.int .i64 a0_0, .string a0_1, .int .i64 a0_2, .int .i64 a0_3, .int .i64 a0_4]] rfl (by (try simp only [List.map_toArray, List.map_cons, List.map_nil]); first | done | rfl | (simp only [List.length_drop, List.length_take]; rfl)) ?_; (with_reducible refine (spec_l3One.calls k a0_0 a0_1 a0_2 a0_3 a0_4 true _ A2.out).mono ?_); rintro e w7 ⟨rfl, hb⟩; refine ⟨_, rfl, ?_⟩; have n0_ := Aside0.mk (blk_below (g := gb253) (o := .cells #[.int .i64 a0_0, .string a0_1, .int .i64 a0_2, .int .i64 a0_3, .int .i64 a0_4] 26 (0, 0)) (by (with_reducible repeat (first | refine blk_drewN ?_ _ | refine blk_drew ?_ | refine blk_alloc ?_ _)); exact BK253.out) hb); have n1_ := Aside0.mk (below_step (by repeat (first | (with_reducible first | exact HB.out | apply below_alloc | apply pw_below_drewN | apply below_drew1 | refine below_set ?_ GE253.out) | exact HB.out)) hb); clear BK253; clear HB; have BK253 := n0_; have HB := n1_; clear n0_ n1_; (try clear hb); (try clear hb2); (try clear hk); (try clear hi); have hcz8_0 : w7.cell? ⟨gb253, 0, none⟩ = some (.int .i64 a0_0) := (blk_cell BK253.out 0).trans rfl; have hcz8_1 : w7.cell? ⟨gb253, 1, none⟩ = some (.string a0_1) := (blk_cell BK253.out 1).trans rfl; have hcz8_2 : w7.cell? ⟨gb253, 2, none⟩ = some (.int .i64 a0_2) := (blk_cell BK253.out 2).trans rfl; have hcz8_3 : w7.cell? ⟨gb253, 3, none⟩ = some (.int .i64 a0_3) := (blk_cell BK253.out 3).trans rfl; have hcz8_4 : w7.cell? ⟨gb253, 4, none⟩ = some (.int .i64 a0_4) := (blk_cell BK253.out 4).trans rfl; have hfz8_0 := blk_frozen BK253.out 0; have hfz8_1 := blk_frozen BK253.out 1; have hfz8_2 := blk_frozen BK253.out 2; have hfz8_3 := blk_frozen BK253.out 3; have hfz8_4 := blk_frozen BK253.out 4) | ((with_reducible refine gate_callee (f := 61) rfl ?_); refine goesL_ (some 8) rfl rfl Tryd.func61 (by kernel_rfl) rfl #[.agg #[.int .i64 a0_0, .string a0_1, .int .i64 a0_2, .int .i64 a0_3, .int .i64 a0_4]] rfl (by (try simp only [List.map_toArray, List.map_cons, List.map_nil]); first | done | rfl | (simp only [List.length_drop, List.length_take]; rfl)) ?_; (with_reducible refine (spec_l3Text.calls k a0_0 a0_1 a0_2 a0_3 a0_4 t255 _ A4.out).mono ?_); rintro e w9 ⟨rfl, hb⟩; refine ⟨_, rfl, ?_⟩; have n0_ := Aside0.mk (blk_below (g := gb253) (o := .cells #[.int .i64 a0_0, .string a0_1, .int .i64 a0_2, .int .i64 a0_3, .int .i64 a0_4] 26 (0, 0)) (by (with_reducible repeat (first | refine blk_drewN ?_ _ | refine blk_drew ?_ | refine blk_alloc ?_ _)); exact BK253.out) hb); have n1_ := Aside0.mk (below_step (by repeat (first | (with_reducible first | exact HB.out | apply below_alloc | apply pw_below_drewN | apply below_drew1 | refine below_set ?_ GE253.out) | exact HB.out)) hb); clear BK253; clear HB; have BK253 := n0_; have HB := n1_; clear n0_ n1_; (try clear hb); (try clear hb2); (try clear hk); (try clear hi)))
    go_ret2
    exact ⟨by first | rfl | (simp [errW_none, errW_some] <;> rfl) | (simp [*, errW_none, errW_some] <;> rfl), by repeat (first | (with_reducible first | exact HB.out | apply below_alloc | apply pw_below_drewN | apply below_drew1 | refine below_set ?_ GE253.out) | exact HB.out)⟩
  · replace c3 := Bool.eq_false_iff.mpr c3
    subst c3
    have H1 : (some ((⟨#[]⟩ : ByteArray), false)) = some (r1, r2) := by rw [if_neg (show ¬ (false = true) by decide)] at H; exact H
    clear H
    have H := H1
    clear H1
    simp only [Option.some.injEq, Prod.mk.injEq] at H
    obtain ⟨rfl, rfl⟩ := H
    go_enter Tryd.func32, Tryd.ntmps32
    go_wp2_with (first | ((with_reducible refine gate_dst (N := 1) rfl ?_); refine box_event ?hg (N := 1) ?hd (cs := #[.int .i64 a0_0, .string a0_1, .int .i64 a0_2, .int .i64 a0_3, .int .i64 a0_4]) (t := 26) ?hr ?_; (case hd => rfl); (case hg => rfl); (case hr => first | (go_simp; done) | (go_simp; rfl)); intro gb253 hg w10 hbox hb; have n0_ := Aside0.mk (below_step (by repeat (first | (with_reducible first | exact HB.out | apply below_alloc | apply pw_below_drewN | apply below_drew1) | exact HB.out)) hb); have n1_ := Aside0.mk (hbox); have n2_ := Aside0.mk ((by rw [hg]; exact (below_size (by repeat (first | (with_reducible first | exact HB.out | apply below_alloc | apply pw_below_drewN | apply below_drew1) | exact HB.out))) : w.heap.size ≤ gb253)); have n3_ := Aside0.mk ((by rw [hg]; exact (below_size (by repeat (first | (with_reducible first | exact HB.out | apply below_alloc | apply pw_below_drewN | apply below_drew1) | exact HB.out))) : w.heap.size ≤ gb253)); clear HB; have HB := n0_; have BK253 := n1_; have GW253 := n2_; have GE253 := n3_; clear n0_ n1_ n2_ n3_; clear hb hbox hg; have hcz11_0 : w10.cell? ⟨gb253, 0, none⟩ = some (.int .i64 a0_0) := (blk_cell BK253.out 0).trans rfl; have hcz11_1 : w10.cell? ⟨gb253, 1, none⟩ = some (.string a0_1) := (blk_cell BK253.out 1).trans rfl; have hcz11_2 : w10.cell? ⟨gb253, 2, none⟩ = some (.int .i64 a0_2) := (blk_cell BK253.out 2).trans rfl; have hcz11_3 : w10.cell? ⟨gb253, 3, none⟩ = some (.int .i64 a0_3) := (blk_cell BK253.out 3).trans rfl; have hcz11_4 : w10.cell? ⟨gb253, 4, none⟩ = some (.int .i64 a0_4) := (blk_cell BK253.out 4).trans rfl; have hfz11_0 := blk_frozen BK253.out 0; have hfz11_1 := blk_frozen BK253.out 1; have hfz11_2 := blk_frozen BK253.out 2; have hfz11_3 := blk_frozen BK253.out 3; have hfz11_4 := blk_frozen BK253.out 4) | ((with_reducible refine gate_callee (f := 34) rfl ?_); refine goesL_ (some 5) rfl rfl Tryd.func34 (by kernel_rfl) rfl #[.agg #[.int .i64 a0_0, .string a0_1, .int .i64 a0_2, .int .i64 a0_3, .int .i64 a0_4]] rfl (by (try simp only [List.map_toArray, List.map_cons, List.map_nil]); first | done | rfl | (simp only [List.length_drop, List.length_take]; rfl)) ?_; (with_reducible refine (spec_l3One.calls k a0_0 a0_1 a0_2 a0_3 a0_4 false _ A2.out).mono ?_); rintro e w12 ⟨rfl, hb⟩; refine ⟨_, rfl, ?_⟩; have n0_ := Aside0.mk (blk_below (g := gb253) (o := .cells #[.int .i64 a0_0, .string a0_1, .int .i64 a0_2, .int .i64 a0_3, .int .i64 a0_4] 26 (0, 0)) (by (with_reducible repeat (first | refine blk_drewN ?_ _ | refine blk_drew ?_ | refine blk_alloc ?_ _)); exact BK253.out) hb); have n1_ := Aside0.mk (below_step (by repeat (first | (with_reducible first | exact HB.out | apply below_alloc | apply pw_below_drewN | apply below_drew1 | refine below_set ?_ GE253.out) | exact HB.out)) hb); clear BK253; clear HB; have BK253 := n0_; have HB := n1_; clear n0_ n1_; (try clear hb); (try clear hb2); (try clear hk); (try clear hi)))
    go_ret2
    exact ⟨by first | rfl | (simp [errW_none, errW_some] <;> rfl) | (simp [*, errW_none, errW_some] <;> rfl), by repeat (first | (with_reducible first | exact HB.out | apply below_alloc | apply pw_below_drewN | apply below_drew1 | refine below_set ?_ GE253.out) | exact HB.out)⟩

end Go.Proofs.YtcfkgcdhioamnaaDoor.G
