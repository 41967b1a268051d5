-- Printed by a program of this session (wip/tools/gp.sh); Lean checks it.
import Derived.Test.YtcfkgcdhioamnaaDoorGx0
import Derived.Test.YtcfkgcdhioamnaaDoorGx2
import Derived.Test.YtcfkgcdhioamnaaDoorGx10
namespace Go.Proofs.YtcfkgcdhioamnaaDoor.G
open Go.RowKit Go.Proofs.YtcfkgcdhioamnaaDoorW.PrintWords Go.Proofs.YtcfkgcdhioamnaaDoorW.PrintLast Go.Proofs.YtcfkgcdhioamnaaDoorW.PrintMore
attribute [local go_sem] isSome_setCell_ max2_int min2_int max_two min_two max_three min_three max_four min_four   -- for this text's walks alone
set_option linter.unusedVariables false
set_option linter.unusedSimpArgs false
theorem yz1 : (⟨#[32]⟩ : ByteArray).size = 1 := rfl
theorem yz4 : (⟨#[32, 97, 116, 32]⟩ : ByteArray).size = 4 := rfl
theorem yz8 : (⟨#[44, 32, 100, 101, 112, 116, 104, 32]⟩ : ByteArray).size = 8 := rfl
theorem yz7 : (⟨#[44, 32, 102, 97, 115, 116, 32]⟩ : ByteArray).size = 7 := rfl

/-! ### impl_ShadeText: function 33 -/
def impl_ShadeText.f (a0_0 : Int) (a0_1 : ByteArray) (a0_2 : Int) (a0_3 : Int) (a0_4 : Int) : Option (ByteArray × Bool) := (impl_IsShade.f a0_0 a0_1 a0_2 a0_3 a0_4).bind fun t276 => (if t276 = true then ((impl_decimal.f a0_0).bind fun t277 => (if t277.size + 1 ≤ 9223372036854775807 then (if (t277 ++ (⟨#[32]⟩ : ByteArray)).size + a0_1.size ≤ 9223372036854775807 then (if ((t277 ++ (⟨#[32]⟩ : ByteArray)) ++ a0_1).size + 4 ≤ 9223372036854775807 then ((impl_decimal.f a0_2).bind fun t278 => (if (((t277 ++ (⟨#[32]⟩ : ByteArray)) ++ a0_1) ++ (⟨#[32, 97, 116, 32]⟩ : ByteArray)).size + t278.size ≤ 9223372036854775807 then (if ((((t277 ++ (⟨#[32]⟩ : ByteArray)) ++ a0_1) ++ (⟨#[32, 97, 116, 32]⟩ : ByteArray)) ++ t278).size + 8 ≤ 9223372036854775807 then ((impl_decimal.f a0_3).bind fun t279 => (if (((((t277 ++ (⟨#[32]⟩ : ByteArray)) ++ a0_1) ++ (⟨#[32, 97, 116, 32]⟩ : ByteArray)) ++ t278) ++ (⟨#[44, 32, 100, 101, 112, 116, 104, 32]⟩ : ByteArray)).size + t279.size ≤ 9223372036854775807 then (if ((((((t277 ++ (⟨#[32]⟩ : ByteArray)) ++ a0_1) ++ (⟨#[32, 97, 116, 32]⟩ : ByteArray)) ++ t278) ++ (⟨#[44, 32, 100, 101, 112, 116, 104, 32]⟩ : ByteArray)) ++ t279).size + 7 ≤ 9223372036854775807 then ((impl_decimal.f a0_4).bind fun t280 => (if (((((((t277 ++ (⟨#[32]⟩ : ByteArray)) ++ a0_1) ++ (⟨#[32, 97, 116, 32]⟩ : ByteArray)) ++ t278) ++ (⟨#[44, 32, 100, 101, 112, 116, 104, 32]⟩ : ByteArray)) ++ t279) ++ (⟨#[44, 32, 102, 97, 115, 116, 32]⟩ : ByteArray)).size + t280.size ≤ 9223372036854775807 then (some ((((((((t277 ++ (⟨#[32]⟩ : ByteArray)) ++ a0_1) ++ (⟨#[32, 97, 116, 32]⟩ : ByteArray)) ++ t278) ++ (⟨#[44, 32, 100, 101, 112, 116, 104, 32]⟩ : ByteArray)) ++ t279) ++ (⟨#[44, 32, 102, 97, 115, 116, 32]⟩ : ByteArray)) ++ t280, true)) else (none))) else (none)) else (none))) else (none)) else (none))) else (none)) else (none)) else (none))) else (some ((⟨#[]⟩ : ByteArray), false)))
def impl_ShadeText.T3 : Bool × List (List Nat × List Nat) := (true, [([], []), ([0], [0]), ([1], [1]), ([2], [2]), ([], []), ([4], [4]), ([3, 5], [3, 5]), ([6], [6]), ([], []), ([8], [8]), ([9, 2], [9]), ([7, 10], [7, 10]), ([11], [11]), ([], []), ([13], [13]), ([14, 10], [14]), ([12, 15], [12, 15]), ([16], [16]), ([], []), ([18], [18]), ([19, 15], [19]), ([17, 20], [17, 20]), ([21, 20, 0, 1, 2, 3, 4, 5, 6, 7, 8, 9, 10, 11, 12, 13, 14, 15, 16, 17, 18, 19, 20, 21], [21]), ([22, 0, 1, 2, 3, 4, 5, 6, 7, 8, 9, 10, 11, 12, 13, 14, 15, 16, 17, 18, 19, 20, 21, 22], [])])
def impl_ShadeText.B3 : List Nat := [0, 1, 3, 7, 0, 16, 63, 127, 0, 256, 775, 2047, 4095, 0, 8192, 26375, 65535, 131071, 0, 262144, 845575, 2097151, 4194303, 8388607]
theorem impl_ShadeText.tab3 : rtab .any (opsOf Tryd.f33 3) = impl_ShadeText.T3 := by kernel_rfl
theorem impl_ShadeText.bits3 : waitsOk impl_ShadeText.T3.2 impl_ShadeText.B3 = true := by kernel_rfl
set_option maxHeartbeats 8000000 in
set_option maxRecDepth 100000 in
theorem impl_ShadeText.calls (a0_0 : Int) (a0_1 : ByteArray) (a0_2 : Int) (a0_3 : Int) (a0_4 : Int) (r1 : ByteArray) (r2 : Bool) (w : World) (h : impl_ShadeText.f a0_0 a0_1 a0_2 a0_3 a0_4 = some (r1, r2)) :
    Calls Tryd.prog 33 #[.agg #[.int .i64 a0_0, .string a0_1, .int .i64 a0_2, .int .i64 a0_3, .int .i64 a0_4]] w fun e w' => e = .returned (.tuple #[.string r1, .bool r2]) ∧ Below w.heap.size w w' := by
  have hu26 := Tryd.underlying26
  have HB := Aside0.mk (Below.refl w.heap.size w)
  have H : ((impl_IsShade.f a0_0 a0_1 a0_2 a0_3 a0_4).bind fun t276 => (if t276 = true then ((impl_decimal.f a0_0).bind fun t277 => (if t277.size + 1 ≤ 9223372036854775807 then (if (t277 ++ (⟨#[32]⟩ : ByteArray)).size + a0_1.size ≤ 9223372036854775807 then (if ((t277 ++ (⟨#[32]⟩ : ByteArray)) ++ a0_1).size + 4 ≤ 9223372036854775807 then ((impl_decimal.f a0_2).bind fun t278 => (if (((t277 ++ (⟨#[32]⟩ : ByteArray)) ++ a0_1) ++ (⟨#[32, 97, 116, 32]⟩ : ByteArray)).size + t278.size ≤ 9223372036854775807 then (if ((((t277 ++ (⟨#[32]⟩ : ByteArray)) ++ a0_1) ++ (⟨#[32, 97, 116, 32]⟩ : ByteArray)) ++ t278).size + 8 ≤ 9223372036854775807 then ((impl_decimal.f a0_3).bind fun t279 => (if (((((t277 ++ (⟨#[32]⟩ : ByteArray)) ++ a0_1) ++ (⟨#[32, 97, 116, 32]⟩ : ByteArray)) ++ t278) ++ (⟨#[44, 32, 100, 101, 112, 116, 104, 32]⟩ : ByteArray)).size + t279.size ≤ 9223372036854775807 then (if ((((((t277 ++ (⟨#[32]⟩ : ByteArray)) ++ a0_1) ++ (⟨#[32, 97, 116, 32]⟩ : ByteArray)) ++ t278) ++ (⟨#[44, 32, 100, 101, 112, 116, 104, 32]⟩ : ByteArray)) ++ t279).size + 7 ≤ 9223372036854775807 then ((impl_decimal.f a0_4).bind fun t280 => (if (((((((t277 ++ (⟨#[32]⟩ : ByteArray)) ++ a0_1) ++ (⟨#[32, 97, 116, 32]⟩ : ByteArray)) ++ t278) ++ (⟨#[44, 32, 100, 101, 112, 116, 104, 32]⟩ : ByteArray)) ++ t279) ++ (⟨#[44, 32, 102, 97, 115, 116, 32]⟩ : ByteArray)).size + t280.size ≤ 9223372036854775807 then (some ((((((((t277 ++ (⟨#[32]⟩ : ByteArray)) ++ a0_1) ++ (⟨#[32, 97, 116, 32]⟩ : ByteArray)) ++ t278) ++ (⟨#[44, 32, 100, 101, 112, 116, 104, 32]⟩ : ByteArray)) ++ t279) ++ (⟨#[44, 32, 102, 97, 115, 116, 32]⟩ : ByteArray)) ++ t280, true)) else (none))) else (none)) else (none))) else (none)) else (none))) else (none)) else (none)) else (none))) else (some ((⟨#[]⟩ : ByteArray), false)))) = some (r1, r2) := h
  clear h
  replace H := Option.bind_eq_some_iff.mp H
  obtain ⟨t276, A20, H⟩ := H
  replace H : (if t276 = true then ((impl_decimal.f a0_0).bind fun t277 => (if t277.size + 1 ≤ 9223372036854775807 then (if (t277 ++ (⟨#[32]⟩ : ByteArray)).size + a0_1.size ≤ 9223372036854775807 then (if ((t277 ++ (⟨#[32]⟩ : ByteArray)) ++ a0_1).size + 4 ≤ 9223372036854775807 then ((impl_decimal.f a0_2).bind fun t278 => (if (((t277 ++ (⟨#[32]⟩ : ByteArray)) ++ a0_1) ++ (⟨#[32, 97, 116, 32]⟩ : ByteArray)).size + t278.size ≤ 9223372036854775807 then (if ((((t277 ++ (⟨#[32]⟩ : ByteArray)) ++ a0_1) ++ (⟨#[32, 97, 116, 32]⟩ : ByteArray)) ++ t278).size + 8 ≤ 9223372036854775807 then ((impl_decimal.f a0_3).bind fun t279 => (if (((((t277 ++ (⟨#[32]⟩ : ByteArray)) ++ a0_1) ++ (⟨#[32, 97, 116, 32]⟩ : ByteArray)) ++ t278) ++ (⟨#[44, 32, 100, 101, 112, 116, 104, 32]⟩ : ByteArray)).size + t279.size ≤ 9223372036854775807 then (if ((((((t277 ++ (⟨#[32]⟩ : ByteArray)) ++ a0_1) ++ (⟨#[32, 97, 116, 32]⟩ : ByteArray)) ++ t278) ++ (⟨#[44, 32, 100, 101, 112, 116, 104, 32]⟩ : ByteArray)) ++ t279).size + 7 ≤ 9223372036854775807 then ((impl_decimal.f a0_4).bind fun t280 => (if (((((((t277 ++ (⟨#[32]⟩ : ByteArray)) ++ a0_1) ++ (⟨#[32, 97, 116, 32]⟩ : ByteArray)) ++ t278) ++ (⟨#[44, 32, 100, 101, 112, 116, 104, 32]⟩ : ByteArray)) ++ t279) ++ (⟨#[44, 32, 102, 97, 115, 116, 32]⟩ : ByteArray)).size + t280.size ≤ 9223372036854775807 then (some ((((((((t277 ++ (⟨#[32]⟩ : ByteArray)) ++ a0_1) ++ (⟨#[32, 97, 116, 32]⟩ : ByteArray)) ++ t278) ++ (⟨#[44, 32, 100, 101, 112, 116, 104, 32]⟩ : ByteArray)) ++ t279) ++ (⟨#[44, 32, 102, 97, 115, 116, 32]⟩ : ByteArray)) ++ t280, true)) else (none))) else (none)) else (none))) else (none)) else (none))) else (none)) else (none)) else (none))) else (some ((⟨#[]⟩ : ByteArray), false))) = some (r1, r2) := H
  have A2 := Aside0.mk A20
  clear A20
  by_cases c3 : t276 = true
  · subst c3
    have H1 : ((impl_decimal.f a0_0).bind fun t277 => (if t277.size + 1 ≤ 9223372036854775807 then (if (t277 ++ (⟨#[32]⟩ : ByteArray)).size + a0_1.size ≤ 9223372036854775807 then (if ((t277 ++ (⟨#[32]⟩ : ByteArray)) ++ a0_1).size + 4 ≤ 9223372036854775807 then ((impl_decimal.f a0_2).bind fun t278 => (if (((t277 ++ (⟨#[32]⟩ : ByteArray)) ++ a0_1) ++ (⟨#[32, 97, 116, 32]⟩ : ByteArray)).size + t278.size ≤ 9223372036854775807 then (if ((((t277 ++ (⟨#[32]⟩ : ByteArray)) ++ a0_1) ++ (⟨#[32, 97, 116, 32]⟩ : ByteArray)) ++ t278).size + 8 ≤ 9223372036854775807 then ((impl_decimal.f a0_3).bind fun t279 => (if (((((t277 ++ (⟨#[32]⟩ : ByteArray)) ++ a0_1) ++ (⟨#[32, 97, 116, 32]⟩ : ByteArray)) ++ t278) ++ (⟨#[44, 32, 100, 101, 112, 116, 104, 32]⟩ : ByteArray)).size + t279.size ≤ 9223372036854775807 then (if ((((((t277 ++ (⟨#[32]⟩ : ByteArray)) ++ a0_1) ++ (⟨#[32, 97, 116, 32]⟩ : ByteArray)) ++ t278) ++ (⟨#[44, 32, 100, 101, 112, 116, 104, 32]⟩ : ByteArray)) ++ t279).size + 7 ≤ 9223372036854775807 then ((impl_decimal.f a0_4).bind fun t280 => (if (((((((t277 ++ (⟨#[32]⟩ : ByteArray)) ++ a0_1) ++ (⟨#[32, 97, 116, 32]⟩ : ByteArray)) ++ t278) ++ (⟨#[44, 32, 100, 101, 112, 116, 104, 32]⟩ : ByteArray)) ++ t279) ++ (⟨#[44, 32, 102, 97, 115, 116, 32]⟩ : ByteArray)).size + t280.size ≤ 9223372036854775807 then (some ((((((((t277 ++ (⟨#[32]⟩ : ByteArray)) ++ a0_1) ++ (⟨#[32, 97, 116, 32]⟩ : ByteArray)) ++ t278) ++ (⟨#[44, 32, 100, 101, 112, 116, 104, 32]⟩ : ByteArray)) ++ t279) ++ (⟨#[44, 32, 102, 97, 115, 116, 32]⟩ : ByteArray)) ++ t280, true)) else (none))) else (none)) else (none))) else (none)) else (none))) else (none)) else (none)) else (none))) = some (r1, r2) := by rw [if_pos rfl] at H; exact H
    clear H
    have H := H1
    clear H1
    replace H := Option.bind_eq_some_iff.mp H
    obtain ⟨t277, A40, H⟩ := H
    replace H : (if t277.size + 1 ≤ 9223372036854775807 then (if (t277 ++ (⟨#[32]⟩ : ByteArray)).size + a0_1.size ≤ 9223372036854775807 then (if ((t277 ++ (⟨#[32]⟩ : ByteArray)) ++ a0_1).size + 4 ≤ 9223372036854775807 then ((impl_decimal.f a0_2).bind fun t278 => (if (((t277 ++ (⟨#[32]⟩ : ByteArray)) ++ a0_1) ++ (⟨#[32, 97, 116, 32]⟩ : ByteArray)).size + t278.size ≤ 9223372036854775807 then (if ((((t277 ++ (⟨#[32]⟩ : ByteArray)) ++ a0_1) ++ (⟨#[32, 97, 116, 32]⟩ : ByteArray)) ++ t278).size + 8 ≤ 9223372036854775807 then ((impl_decimal.f a0_3).bind fun t279 => (if (((((t277 ++ (⟨#[32]⟩ : ByteArray)) ++ a0_1) ++ (⟨#[32, 97, 116, 32]⟩ : ByteArray)) ++ t278) ++ (⟨#[44, 32, 100, 101, 112, 116, 104, 32]⟩ : ByteArray)).size + t279.size ≤ 9223372036854775807 then (if ((((((t277 ++ (⟨#[32]⟩ : ByteArray)) ++ a0_1) ++ (⟨#[32, 97, 116, 32]⟩ : ByteArray)) ++ t278) ++ (⟨#[44, 32, 100, 101, 112, 116, 104, 32]⟩ : ByteArray)) ++ t279).size + 7 ≤ 9223372036854775807 then ((impl_decimal.f a0_4).bind fun t280 => (if (((((((t277 ++ (⟨#[32]⟩ : ByteArray)) ++ a0_1) ++ (⟨#[32, 97, 116, 32]⟩ : ByteArray)) ++ t278) ++ (⟨#[44, 32, 100, 101, 112, 116, 104, 32]⟩ : ByteArray)) ++ t279) ++ (⟨#[44, 32, 102, 97, 115, 116, 32]⟩ : ByteArray)).size + t280.size ≤ 9223372036854775807 then (some ((((((((t277 ++ (⟨#[32]⟩ : ByteArray)) ++ a0_1) ++ (⟨#[32, 97, 116, 32]⟩ : ByteArray)) ++ t278) ++ (⟨#[44, 32, 100, 101, 112, 116, 104, 32]⟩ : ByteArray)) ++ t279) ++ (⟨#[44, 32, 102, 97, 115, 116, 32]⟩ : ByteArray)) ++ t280, true)) else (none))) else (none)) else (none))) else (none)) else (none))) else (none)) else (none)) else (none)) = some (r1, r2) := H
    have A4 := Aside0.mk A40
    clear A40
    by_cases c5 : t277.size + 1 ≤ 9223372036854775807
    · rw [if_pos c5] at H
      have c5b0 := eq_true c5
      have c5b1 : decide (t277.size + 1 ≤ 9223372036854775807) = true := decide_eq_true c5
      try have c5b2 : (9223372036854775807 < t277.size + 1) = False := eq_false (Nat.not_lt.2 c5)
      by_cases c6 : (t277 ++ (⟨#[32]⟩ : ByteArray)).size + a0_1.size ≤ 9223372036854775807
      · rw [if_pos c6] at H
        have c6b0 := eq_true c6
        have c6b1 : decide ((t277 ++ (⟨#[32]⟩ : ByteArray)).size + a0_1.size ≤ 9223372036854775807) = true := decide_eq_true c6
        try have c6b2 : (9223372036854775807 < (t277 ++ (⟨#[32]⟩ : ByteArray)).size + a0_1.size) = False := eq_false (Nat.not_lt.2 c6)
        by_cases c7 : ((t277 ++ (⟨#[32]⟩ : ByteArray)) ++ a0_1).size + 4 ≤ 9223372036854775807
        · rw [if_pos c7] at H
          have c7b0 := eq_true c7
          have c7b1 : decide (((t277 ++ (⟨#[32]⟩ : ByteArray)) ++ a0_1).size + 4 ≤ 9223372036854775807) = true := decide_eq_true c7
          try have c7b2 : (9223372036854775807 < ((t277 ++ (⟨#[32]⟩ : ByteArray)) ++ a0_1).size + 4) = False := eq_false (Nat.not_lt.2 c7)
          replace H := Option.bind_eq_some_iff.mp H
          obtain ⟨t278, A80, H⟩ := H
          replace H : (if (((t277 ++ (⟨#[32]⟩ : ByteArray)) ++ a0_1) ++ (⟨#[32, 97, 116, 32]⟩ : ByteArray)).size + t278.size ≤ 9223372036854775807 then (if ((((t277 ++ (⟨#[32]⟩ : ByteArray)) ++ a0_1) ++ (⟨#[32, 97, 116, 32]⟩ : ByteArray)) ++ t278).size + 8 ≤ 9223372036854775807 then ((impl_decimal.f a0_3).bind fun t279 => (if (((((t277 ++ (⟨#[32]⟩ : ByteArray)) ++ a0_1) ++ (⟨#[32, 97, 116, 32]⟩ : ByteArray)) ++ t278) ++ (⟨#[44, 32, 100, 101, 112, 116, 104, 32]⟩ : ByteArray)).size + t279.size ≤ 9223372036854775807 then (if ((((((t277 ++ (⟨#[32]⟩ : ByteArray)) ++ a0_1) ++ (⟨#[32, 97, 116, 32]⟩ : ByteArray)) ++ t278) ++ (⟨#[44, 32, 100, 101, 112, 116, 104, 32]⟩ : ByteArray)) ++ t279).size + 7 ≤ 9223372036854775807 then ((impl_decimal.f a0_4).bind fun t280 => (if (((((((t277 ++ (⟨#[32]⟩ : ByteArray)) ++ a0_1) ++ (⟨#[32, 97, 116, 32]⟩ : ByteArray)) ++ t278) ++ (⟨#[44, 32, 100, 101, 112, 116, 104, 32]⟩ : ByteArray)) ++ t279) ++ (⟨#[44, 32, 102, 97, 115, 116, 32]⟩ : ByteArray)).size + t280.size ≤ 9223372036854775807 then (some ((((((((t277 ++ (⟨#[32]⟩ : ByteArray)) ++ a0_1) ++ (⟨#[32, 97, 116, 32]⟩ : ByteArray)) ++ t278) ++ (⟨#[44, 32, 100, 101, 112, 116, 104, 32]⟩ : ByteArray)) ++ t279) ++ (⟨#[44, 32, 102, 97, 115, 116, 32]⟩ : ByteArray)) ++ t280, true)) else (none))) else (none)) else (none))) else (none)) else (none)) = some (r1, r2) := H
          have A8 := Aside0.mk A80
          clear A80
          by_cases c9 : (((t277 ++ (⟨#[32]⟩ : ByteArray)) ++ a0_1) ++ (⟨#[32, 97, 116, 32]⟩ : ByteArray)).size + t278.size ≤ 9223372036854775807
          · rw [if_pos c9] at H
            have c9b0 := eq_true c9
            have c9b1 : decide ((((t277 ++ (⟨#[32]⟩ : ByteArray)) ++ a0_1) ++ (⟨#[32, 97, 116, 32]⟩ : ByteArray)).size + t278.size ≤ 9223372036854775807) = true := decide_eq_true c9
            try have c9b2 : (9223372036854775807 < (((t277 ++ (⟨#[32]⟩ : ByteArray)) ++ a0_1) ++ (⟨#[32, 97, 116, 32]⟩ : ByteArray)).size + t278.size) = False := eq_false (Nat.not_lt.2 c9)
            by_cases c10 : ((((t277 ++ (⟨#[32]⟩ : ByteArray)) ++ a0_1) ++ (⟨#[32, 97, 116, 32]⟩ : ByteArray)) ++ t278).size + 8 ≤ 9223372036854775807
            · rw [if_pos c10] at H
              have c10b0 := eq_true c10
              have c10b1 : decide (((((t277 ++ (⟨#[32]⟩ : ByteArray)) ++ a0_1) ++ (⟨#[32, 97, 116, 32]⟩ : ByteArray)) ++ t278).size + 8 ≤ 9223372036854775807) = true := decide_eq_true c10
              try have c10b2 : (9223372036854775807 < ((((t277 ++ (⟨#[32]⟩ : ByteArray)) ++ a0_1) ++ (⟨#[32, 97, 116, 32]⟩ : ByteArray)) ++ t278).size + 8) = False := eq_false (Nat.not_lt.2 c10)
              replace H := Option.bind_eq_some_iff.mp H
              obtain ⟨t279, A110, H⟩ := H
              replace H : (if (((((t277 ++ (⟨#[32]⟩ : ByteArray)) ++ a0_1) ++ (⟨#[32, 97, 116, 32]⟩ : ByteArray)) ++ t278) ++ (⟨#[44, 32, 100, 101, 112, 116, 104, 32]⟩ : ByteArray)).size + t279.size ≤ 9223372036854775807 then (if ((((((t277 ++ (⟨#[32]⟩ : ByteArray)) ++ a0_1) ++ (⟨#[32, 97, 116, 32]⟩ : ByteArray)) ++ t278) ++ (⟨#[44, 32, 100, 101, 112, 116, 104, 32]⟩ : ByteArray)) ++ t279).size + 7 ≤ 9223372036854775807 then ((impl_decimal.f a0_4).bind fun t280 => (if (((((((t277 ++ (⟨#[32]⟩ : ByteArray)) ++ a0_1) ++ (⟨#[32, 97, 116, 32]⟩ : ByteArray)) ++ t278) ++ (⟨#[44, 32, 100, 101, 112, 116, 104, 32]⟩ : ByteArray)) ++ t279) ++ (⟨#[44, 32, 102, 97, 115, 116, 32]⟩ : ByteArray)).size + t280.size ≤ 9223372036854775807 then (some ((((((((t277 ++ (⟨#[32]⟩ : ByteArray)) ++ a0_1) ++ (⟨#[32, 97, 116, 32]⟩ : ByteArray)) ++ t278) ++ (⟨#[44, 32, 100, 101, 112, 116, 104, 32]⟩ : ByteArray)) ++ t279) ++ (⟨#[44, 32, 102, 97, 115, 116, 32]⟩ : ByteArray)) ++ t280, true)) else (none))) else (none)) else (none)) = some (r1, r2) := H
              have A11 := Aside0.mk A110
              clear A110
              by_cases c12 : (((((t277 ++ (⟨#[32]⟩ : ByteArray)) ++ a0_1) ++ (⟨#[32, 97, 116, 32]⟩ : ByteArray)) ++ t278) ++ (⟨#[44, 32, 100, 101, 112, 116, 104, 32]⟩ : ByteArray)).size + t279.size ≤ 9223372036854775807
              · rw [if_pos c12] at H
                have c12b0 := eq_true c12
                have c12b1 : decide ((((((t277 ++ (⟨#[32]⟩ : ByteArray)) ++ a0_1) ++ (⟨#[32, 97, 116, 32]⟩ : ByteArray)) ++ t278) ++ (⟨#[44, 32, 100, 101, 112, 116, 104, 32]⟩ : ByteArray)).size + t279.size ≤ 9223372036854775807) = true := decide_eq_true c12
                try have c12b2 : (9223372036854775807 < (((((t277 ++ (⟨#[32]⟩ : ByteArray)) ++ a0_1) ++ (⟨#[32, 97, 116, 32]⟩ : ByteArray)) ++ t278) ++ (⟨#[44, 32, 100, 101, 112, 116, 104, 32]⟩ : ByteArray)).size + t279.size) = False := eq_false (Nat.not_lt.2 c12)
                by_cases c13 : ((((((t277 ++ (⟨#[32]⟩ : ByteArray)) ++ a0_1) ++ (⟨#[32, 97, 116, 32]⟩ : ByteArray)) ++ t278) ++ (⟨#[44, 32, 100, 101, 112, 116, 104, 32]⟩ : ByteArray)) ++ t279).size + 7 ≤ 9223372036854775807
                · rw [if_pos c13] at H
                  have c13b0 := eq_true c13
                  have c13b1 : decide (((((((t277 ++ (⟨#[32]⟩ : ByteArray)) ++ a0_1) ++ (⟨#[32, 97, 116, 32]⟩ : ByteArray)) ++ t278) ++ (⟨#[44, 32, 100, 101, 112, 116, 104, 32]⟩ : ByteArray)) ++ t279).size + 7 ≤ 9223372036854775807) = true := decide_eq_true c13
                  try have c13b2 : (9223372036854775807 < ((((((t277 ++ (⟨#[32]⟩ : ByteArray)) ++ a0_1) ++ (⟨#[32, 97, 116, 32]⟩ : ByteArray)) ++ t278) ++ (⟨#[44, 32, 100, 101, 112, 116, 104, 32]⟩ : ByteArray)) ++ t279).size + 7) = False := eq_false (Nat.not_lt.2 c13)
                  replace H := Option.bind_eq_some_iff.mp H
                  obtain ⟨t280, A140, H⟩ := H
                  replace H : (if (((((((t277 ++ (⟨#[32]⟩ : ByteArray)) ++ a0_1) ++ (⟨#[32, 97, 116, 32]⟩ : ByteArray)) ++ t278) ++ (⟨#[44, 32, 100, 101, 112, 116, 104, 32]⟩ : ByteArray)) ++ t279) ++ (⟨#[44, 32, 102, 97, 115, 116, 32]⟩ : ByteArray)).size + t280.size ≤ 9223372036854775807 then (some ((((((((t277 ++ (⟨#[32]⟩ : ByteArray)) ++ a0_1) ++ (⟨#[32, 97, 116, 32]⟩ : ByteArray)) ++ t278) ++ (⟨#[44, 32, 100, 101, 112, 116, 104, 32]⟩ : ByteArray)) ++ t279) ++ (⟨#[44, 32, 102, 97, 115, 116, 32]⟩ : ByteArray)) ++ t280, true)) else (none)) = some (r1, r2) := H
                  have A14 := Aside0.mk A140
                  clear A140
                  by_cases c15 : (((((((t277 ++ (⟨#[32]⟩ : ByteArray)) ++ a0_1) ++ (⟨#[32, 97, 116, 32]⟩ : ByteArray)) ++ t278) ++ (⟨#[44, 32, 100, 101, 112, 116, 104, 32]⟩ : ByteArray)) ++ t279) ++ (⟨#[44, 32, 102, 97, 115, 116, 32]⟩ : ByteArray)).size + t280.size ≤ 9223372036854775807
                  · rw [if_pos c15] at H
                    have c15b0 := eq_true c15
                    have c15b1 : decide ((((((((t277 ++ (⟨#[32]⟩ : ByteArray)) ++ a0_1) ++ (⟨#[32, 97, 116, 32]⟩ : ByteArray)) ++ t278) ++ (⟨#[44, 32, 100, 101, 112, 116, 104, 32]⟩ : ByteArray)) ++ t279) ++ (⟨#[44, 32, 102, 97, 115, 116, 32]⟩ : ByteArray)).size + t280.size ≤ 9223372036854775807) = true := decide_eq_true c15
                    try have c15b2 : (9223372036854775807 < (((((((t277 ++ (⟨#[32]⟩ : ByteArray)) ++ a0_1) ++ (⟨#[32, 97, 116, 32]⟩ : ByteArray)) ++ t278) ++ (⟨#[44, 32, 100, 101, 112, 116, 104, 32]⟩ : ByteArray)) ++ t279) ++ (⟨#[44, 32, 102, 97, 115, 116, 32]⟩ : ByteArray)).size + t280.size) = False := eq_false (Nat.not_lt.2 c15)
                    simp only [Option.some.injEq, Prod.mk.injEq] at H
                    obtain ⟨rfl, rfl⟩ := H
                    go_enter Tryd.func33, Tryd.ntmps33
                    try go_wp2_with (first | ((with_reducible refine gate_dst (N := 1) rfl ?_); refine box_event ?hg (N := 1) ?hd (cs := #[.int .i64 a0_0, .string a0_1, .int .i64 a0_2, .int .i64 a0_3, .int .i64 a0_4]) (t := 26) ?hr ?_; (case hd => rfl); (case hg => rfl); (case hr => first | (go_simp; done) | (go_simp; rfl)); intro gb275 hg w16 hbox hb; have n0_ := Aside0.mk (below_step (by repeat (first | (with_reducible first | exact HB.out | apply below_alloc | apply pw_below_drewN | apply below_drew1) | exact HB.out)) hb); have n1_ := Aside0.mk (hbox); have n2_ := Aside0.mk ((by rw [hg]; exact (below_size (by repeat (first | (with_reducible first | exact HB.out | apply below_alloc | apply pw_below_drewN | apply below_drew1) | exact HB.out))) : w.heap.size ≤ gb275)); have n3_ := Aside0.mk ((by rw [hg]; exact (below_size (by repeat (first | (with_reducible first | exact HB.out | apply below_alloc | apply pw_below_drewN | apply below_drew1) | exact HB.out))) : w.heap.size ≤ gb275)); clear HB; have HB := n0_; have BK275 := n1_; have GW275 := n2_; have GE275 := n3_; clear n0_ n1_ n2_ n3_; clear hb hbox hg; have hcz17_0 : w16.cell? ⟨gb275, 0, none⟩ = some (.int .i64 a0_0) := (blk_cell BK275.out 0).trans rfl; have hcz17_1 : w16.cell? ⟨gb275, 1, none⟩ = some (.string a0_1) := (blk_cell BK275.out 1).trans rfl; have hcz17_2 : w16.cell? ⟨gb275, 2, none⟩ = some (.int .i64 a0_2) := (blk_cell BK275.out 2).trans rfl; have hcz17_3 : w16.cell? ⟨gb275, 3, none⟩ = some (.int .i64 a0_3) := (blk_cell BK275.out 3).trans rfl; have hcz17_4 : w16.cell? ⟨gb275, 4, none⟩ = some (.int .i64 a0_4) := (blk_cell BK275.out 4).trans rfl; have hfz17_0 := blk_frozen BK275.out 0; have hfz17_1 := blk_frozen BK275.out 1; have hfz17_2 := blk_frozen BK275.out 2; have hfz17_3 := blk_frozen BK275.out 3; have hfz17_4 := blk_frozen BK275.out 4) | ((with_reducible refine gate_callee (f := 13) rfl ?_); refine goesL_ (some 5) rfl rfl Tryd.func13 (by kernel_rfl) rfl #[.agg #[.int .i64 a0_0, .string a0_1, .int .i64 a0_2, .int .i64 a0_3, .int .i64 a0_4]] rfl (by (try simp only [List.map_toArray, List.map_cons, List.map_nil]); first | done | rfl | (simp only [List.length_drop, List.length_take]; rfl)) ?_; (with_reducible refine (impl_IsShade.calls a0_0 a0_1 a0_2 a0_3 a0_4 true _ A2.out).mono ?_); rintro e w18 ⟨rfl, hb⟩; refine ⟨_, rfl, ?_⟩; have n0_ := Aside0.mk (blk_below (g := gb275) (o := .cells #[.int .i64 a0_0, .string a0_1, .int .i64 a0_2, .int .i64 a0_3, .int .i64 a0_4] 26 (0, 0)) (by (with_reducible repeat (first | refine blk_drewN ?_ _ | refine blk_drew ?_ | refine blk_alloc ?_ _)); exact BK275.out) hb); have n1_ := Aside0.mk (below_step (by repeat (first | (with_reducible first | exact HB.out | apply below_alloc | apply pw_below_drewN | apply below_drew1 | refine below_set ?_ GE275.out) | exact HB.out)) hb); clear BK275; clear HB; have BK275 := n0_; have HB := n1_; clear n0_ n1_; (try clear hb); (try clear hb2); (try clear hk); (try clear hi)))
                    have n0_ := Aside0.mk (blk_drew BK275.out)
                    have n1_ := Aside0.mk (below_drew1 HB.out)
                    clear BK275
                    clear HB
                    have BK275 := n0_
                    have HB := n1_
                    clear n0_ n1_
                    refine start_ (n := 24) (S := fun w' => w'.cell? ⟨gb275, 0, none⟩ = some (.int .i64 a0_0) ∧ w'.cell? ⟨gb275, 1, none⟩ = some (.string a0_1) ∧ w'.cell? ⟨gb275, 2, none⟩ = some (.int .i64 a0_2) ∧ w'.cell? ⟨gb275, 3, none⟩ = some (.int .i64 a0_3) ∧ w'.cell? ⟨gb275, 4, none⟩ = some (.int .i64 a0_4)) (ds := []) #[false, false, false, false, false, false, false, false, false, false, false, false, false, false, false, false, false, false, false, false, false, false, false, false] (by kernel_rfl) rfl rfl ⟨(blk_cell BK275.out 0).trans rfl, (blk_cell BK275.out 1).trans rfl, (blk_cell BK275.out 2).trans rfl, (blk_cell BK275.out 3).trans rfl, (blk_cell BK275.out 4).trans rfl⟩ (fun hHeld => ?_); refine with_tabW impl_ShadeText.tab3 impl_ShadeText.bits3 (fun HT_ HW_ => ?_)
                    generalize w18.drew = w19 at BK275 HB hHeld ⊢
                    refine pure_ (i := 0) (N := some 7) (v := ?_) (a' := ?_) #[true, false, false, false, false, false, false, false, false, false, false, false, false, false, false, false, false, false, false, false, false, false, false, false] rfl rfl (any_of HT_.out (by kernel_rfl)) (fun _ _ _ h => h) (Or.inl ⟨by rfl, ?_⟩) ?_ ?_
                    rotate_left
                    · intro w'
                      go_simp
                      first
                        | with_reducible rfl
                        | (rw [if_neg (by simp only [ByteArray.size_append, yz1, yz4, yz8, yz7] at *; omega)])
                    rotate_left
                    · simp only [Act.put, List.setIfInBounds_toArray, List.set_cons_zero, List.set_cons_succ, i64_w, i32_w]
                      rfl
                    refine pure_ (i := 4) (N := some 11) (v := ?_) (a' := ?_) #[true, false, false, false, true, false, false, false, false, false, false, false, false, false, false, false, false, false, false, false, false, false, false, false] rfl rfl (any_of HT_.out (by kernel_rfl)) (fun _ _ _ h => h) (Or.inl ⟨by rfl, ?_⟩) ?_ ?_
                    rotate_left
                    · intro w'
                      go_simp
                      first
                        | with_reducible rfl
                        | (rw [if_neg (by simp only [ByteArray.size_append, yz1, yz4, yz8, yz7] at *; omega)])
                    rotate_left
                    · simp only [Act.put, List.setIfInBounds_toArray, List.set_cons_zero, List.set_cons_succ, i64_w, i32_w]
                      rfl
                    refine pure_ (i := 8) (N := some 15) (v := ?_) (a' := ?_) #[true, false, false, false, true, false, false, false, true, false, false, false, false, false, false, false, false, false, false, false, false, false, false, false] rfl rfl (any_of HT_.out (by kernel_rfl)) (fun _ _ _ h => h) (Or.inl ⟨by rfl, ?_⟩) ?_ ?_
                    rotate_left
                    · intro w'
                      go_simp
                      first
                        | with_reducible rfl
                        | (rw [if_neg (by simp only [ByteArray.size_append, yz1, yz4, yz8, yz7] at *; omega)])
                    rotate_left
                    · simp only [Act.put, List.setIfInBounds_toArray, List.set_cons_zero, List.set_cons_succ, i64_w, i32_w]
                      rfl
                    refine pure_ (i := 13) (N := some 20) (v := ?_) (a' := ?_) #[true, false, false, false, true, false, false, false, true, false, false, false, false, true, false, false, false, false, false, false, false, false, false, false] rfl rfl (any_of HT_.out (by kernel_rfl)) (fun _ _ _ h => h) (Or.inl ⟨by rfl, ?_⟩) ?_ ?_
                    rotate_left
                    · intro w'
                      go_simp
                      first
                        | with_reducible rfl
                        | (rw [if_neg (by simp only [ByteArray.size_append, yz1, yz4, yz8, yz7] at *; omega)])
                    rotate_left
                    · simp only [Act.put, List.setIfInBounds_toArray, List.set_cons_zero, List.set_cons_succ, i64_w, i32_w]
                      rfl
                    refine pure_ (i := 18) (N := some 25) (v := ?_) (a' := ?_) #[true, false, false, false, true, false, false, false, true, false, false, false, false, true, false, false, false, false, true, false, false, false, false, false] rfl rfl (any_of HT_.out (by kernel_rfl)) (fun _ _ _ h => h) (Or.inl ⟨by rfl, ?_⟩) ?_ ?_
                    rotate_left
                    · intro w'
                      go_simp
                      first
                        | with_reducible rfl
                        | (rw [if_neg (by simp only [ByteArray.size_append, yz1, yz4, yz8, yz7] at *; omega)])
                    rotate_left
                    · simp only [Act.put, List.setIfInBounds_toArray, List.set_cons_zero, List.set_cons_succ, i64_w, i32_w]
                      rfl
                    refine take_ (i := 1) (N := some 8) (v := ?_) (a' := ?_) #[true, true, false, false, true, false, false, false, true, false, false, false, false, true, false, false, false, false, true, false, false, false, false, false] rfl rfl (take_ofW HT_.out HW_.out (by kernel_rfl)) (fun _ _ _ h => h) (Or.inl ⟨by rfl, ?_⟩) hHeld ?_ ?_
                    rotate_left
                    · rintro w' ⟨s0, s1, s2, s3, s4⟩
                      go_simp
                      with_reducible rfl
                    rotate_left
                    · simp only [Act.put, List.setIfInBounds_toArray, List.set_cons_zero, List.set_cons_succ, i64_w, i32_w]
                      rfl
                    refine take_ (i := 5) (N := some 12) (v := ?_) (a' := ?_) #[true, true, false, false, true, true, false, false, true, false, false, false, false, true, false, false, false, false, true, false, false, false, false, false] rfl rfl (take_ofW HT_.out HW_.out (by kernel_rfl)) (fun _ _ _ h => h) (Or.inl ⟨by rfl, ?_⟩) hHeld ?_ ?_
                    rotate_left
                    · rintro w' ⟨s0, s1, s2, s3, s4⟩
                      go_simp
                      with_reducible rfl
                    rotate_left
                    · simp only [Act.put, List.setIfInBounds_toArray, List.set_cons_zero, List.set_cons_succ, i64_w, i32_w]
                      rfl
                    refine take_ (i := 9) (N := some 16) (v := ?_) (a' := ?_) #[true, true, false, false, true, true, false, false, true, true, false, false, false, true, false, false, false, false, true, false, false, false, false, false] rfl rfl (take_ofW HT_.out HW_.out (by kernel_rfl)) (fun _ _ _ h => h) (Or.inl ⟨by rfl, ?_⟩) hHeld ?_ ?_
                    rotate_left
                    · rintro w' ⟨s0, s1, s2, s3, s4⟩
                      go_simp
                      with_reducible rfl
                    rotate_left
                    · simp only [Act.put, List.setIfInBounds_toArray, List.set_cons_zero, List.set_cons_succ, i64_w, i32_w]
                      rfl
                    refine take_ (i := 14) (N := some 21) (v := ?_) (a' := ?_) #[true, true, false, false, true, true, false, false, true, true, false, false, false, true, true, false, false, false, true, false, false, false, false, false] rfl rfl (take_ofW HT_.out HW_.out (by kernel_rfl)) (fun _ _ _ h => h) (Or.inl ⟨by rfl, ?_⟩) hHeld ?_ ?_
                    rotate_left
                    · rintro w' ⟨s0, s1, s2, s3, s4⟩
                      go_simp
                      with_reducible rfl
                    rotate_left
                    · simp only [Act.put, List.setIfInBounds_toArray, List.set_cons_zero, List.set_cons_succ, i64_w, i32_w]
                      rfl
                    refine take_ (i := 19) (N := some 26) (v := ?_) (a' := ?_) #[true, true, false, false, true, true, false, false, true, true, false, false, false, true, true, false, false, false, true, true, false, false, false, false] rfl rfl (take_ofW HT_.out HW_.out (by kernel_rfl)) (fun _ _ _ h => h) (Or.inl ⟨by rfl, ?_⟩) hHeld ?_ ?_
                    rotate_left
                    · rintro w' ⟨s0, s1, s2, s3, s4⟩
                      go_simp
                      with_reducible rfl
                    rotate_left
                    · simp only [Act.put, List.setIfInBounds_toArray, List.set_cons_zero, List.set_cons_succ, i64_w, i32_w]
                      rfl
                    refine one_ (i := 2) (N := some 9) #[true, true, true, false, true, true, false, false, true, true, false, false, false, true, true, false, false, false, true, true, false, false, false, false] rfl rfl (one_of HT_.out (by kernel_rfl)) (by decide) (fun K hK => ?_)
                    refine goes_ Tryd.func62 (by kernel_rfl) rfl #[.int .i64 a0_0] (by rfl) rfl rfl (by (try simp only [List.map_toArray, List.map_cons, List.map_nil]); first | done | rfl | (simp only [List.length_drop, List.length_take]; rfl)) ?_
                    with_reducible refine (impl_decimal.calls a0_0 t277 _ A4.out).mono ?_
                    rintro e w20 ⟨rfl, hb⟩
                    refine ⟨_, rfl, ?_⟩
                    have n0_ := Aside0.mk (blk_below (g := gb275) (o := .cells #[.int .i64 a0_0, .string a0_1, .int .i64 a0_2, .int .i64 a0_3, .int .i64 a0_4] 26 (0, 0)) (by (with_reducible repeat (first | refine blk_drewN ?_ _ | refine blk_drew ?_ | refine blk_alloc ?_ _)); exact BK275.out) hb)
                    have n1_ := Aside0.mk (below_step (by repeat (first | (with_reducible first | exact HB.out | apply below_alloc | apply pw_below_drewN | apply below_drew1 | refine below_set ?_ GE275.out) | exact HB.out)) hb)
                    clear BK275
                    clear HB
                    have BK275 := n0_
                    have HB := n1_
                    clear n0_ n1_
                    (try clear hb)
                    (try clear hb2)
                    (try clear hk)
                    (try clear hi)
                    refine hK.out _ _ ⟨(blk_cell BK275.out 0).trans rfl, (blk_cell BK275.out 1).trans rfl, (blk_cell BK275.out 2).trans rfl, (blk_cell BK275.out 3).trans rfl, (blk_cell BK275.out 4).trans rfl⟩ (fun hHeld => ?_)
                    clear hK K
                    refine norm_ (a' := ?_) ?_ ?_
                    rotate_left
                    · show Act.put _ (some 9) _ = _
                      simp only [Act.put, List.setIfInBounds_toArray, List.set_cons_zero, List.set_cons_succ, i64_w, i32_w]
                      rfl
                    refine pure_ (i := 3) (N := some 10) (v := ?_) (a' := ?_) #[true, true, true, true, true, true, false, false, true, true, false, false, false, true, true, false, false, false, true, true, false, false, false, false] rfl rfl (any_of HT_.out (by kernel_rfl)) (fun _ _ _ h => h) (Or.inl ⟨by rfl, ?_⟩) ?_ ?_
                    rotate_left
                    · intro w'
                      go_simp
                      first
                        | with_reducible rfl
                        | (rw [if_neg (by simp only [ByteArray.size_append, yz1, yz4, yz8, yz7] at *; omega)])
                    rotate_left
                    · simp only [Act.put, List.setIfInBounds_toArray, List.set_cons_zero, List.set_cons_succ, i64_w, i32_w]
                      rfl
                    refine pure_ (i := 6) (N := some 13) (v := ?_) (a' := ?_) #[true, true, true, true, true, true, true, false, true, true, false, false, false, true, true, false, false, false, true, true, false, false, false, false] rfl rfl (any_of HT_.out (by kernel_rfl)) (fun _ _ _ h => h) (Or.inl ⟨by rfl, ?_⟩) ?_ ?_
                    rotate_left
                    · intro w'
                      go_simp
                      first
                        | with_reducible rfl
                        | (rw [if_neg (by simp only [ByteArray.size_append, yz1, yz4, yz8, yz7] at *; omega)])
                    rotate_left
                    · simp only [Act.put, List.setIfInBounds_toArray, List.set_cons_zero, List.set_cons_succ, i64_w, i32_w]
                      rfl
                    refine pure_ (i := 7) (N := some 14) (v := ?_) (a' := ?_) #[true, true, true, true, true, true, true, true, true, true, false, false, false, true, true, false, false, false, true, true, false, false, false, false] rfl rfl (any_of HT_.out (by kernel_rfl)) (fun _ _ _ h => h) (Or.inl ⟨by rfl, ?_⟩) ?_ ?_
                    rotate_left
                    · intro w'
                      go_simp
                      first
                        | with_reducible rfl
                        | (rw [if_neg (by simp only [ByteArray.size_append, yz1, yz4, yz8, yz7] at *; omega)])
                    rotate_left
                    · simp only [Act.put, List.setIfInBounds_toArray, List.set_cons_zero, List.set_cons_succ, i64_w, i32_w]
                      rfl
                    refine one_ (i := 10) (N := some 17) #[true, true, true, true, true, true, true, true, true, true, true, false, false, true, true, false, false, false, true, true, false, false, false, false] rfl rfl (one_of HT_.out (by kernel_rfl)) (by decide) (fun K hK => ?_)
                    refine goes_ Tryd.func62 (by kernel_rfl) rfl #[.int .i64 a0_2] (by rfl) rfl rfl (by (try simp only [List.map_toArray, List.map_cons, List.map_nil]); first | done | rfl | (simp only [List.length_drop, List.length_take]; rfl)) ?_
                    with_reducible refine (impl_decimal.calls a0_2 t278 _ A8.out).mono ?_
                    rintro e w21 ⟨rfl, hb⟩
                    refine ⟨_, rfl, ?_⟩
                    have n0_ := Aside0.mk (blk_below (g := gb275) (o := .cells #[.int .i64 a0_0, .string a0_1, .int .i64 a0_2, .int .i64 a0_3, .int .i64 a0_4] 26 (0, 0)) (by (with_reducible repeat (first | refine blk_drewN ?_ _ | refine blk_drew ?_ | refine blk_alloc ?_ _)); exact BK275.out) hb)
                    have n1_ := Aside0.mk (below_step (by repeat (first | (with_reducible first | exact HB.out | apply below_alloc | apply pw_below_drewN | apply below_drew1 | refine below_set ?_ GE275.out) | exact HB.out)) hb)
                    clear BK275
                    clear HB
                    have BK275 := n0_
                    have HB := n1_
                    clear n0_ n1_
                    (try clear hb)
                    (try clear hb2)
                    (try clear hk)
                    (try clear hi)
                    refine hK.out _ _ ⟨(blk_cell BK275.out 0).trans rfl, (blk_cell BK275.out 1).trans rfl, (blk_cell BK275.out 2).trans rfl, (blk_cell BK275.out 3).trans rfl, (blk_cell BK275.out 4).trans rfl⟩ (fun hHeld => ?_)
                    clear hK K
                    refine norm_ (a' := ?_) ?_ ?_
                    rotate_left
                    · show Act.put _ (some 17) _ = _
                      simp only [Act.put, List.setIfInBounds_toArray, List.set_cons_zero, List.set_cons_succ, i64_w, i32_w]
                      rfl
                    refine pure_ (i := 11) (N := some 18) (v := ?_) (a' := ?_) #[true, true, true, true, true, true, true, true, true, true, true, true, false, true, true, false, false, false, true, true, false, false, false, false] rfl rfl (any_of HT_.out (by kernel_rfl)) (fun _ _ _ h => h) (Or.inl ⟨by rfl, ?_⟩) ?_ ?_
                    rotate_left
                    · intro w'
                      go_simp
                      first
                        | with_reducible rfl
                        | (rw [if_neg (by simp only [ByteArray.size_append, yz1, yz4, yz8, yz7] at *; omega)])
                    rotate_left
                    · simp only [Act.put, List.setIfInBounds_toArray, List.set_cons_zero, List.set_cons_succ, i64_w, i32_w]
                      rfl
                    refine pure_ (i := 12) (N := some 19) (v := ?_) (a' := ?_) #[true, true, true, true, true, true, true, true, true, true, true, true, true, true, true, false, false, false, true, true, false, false, false, false] rfl rfl (any_of HT_.out (by kernel_rfl)) (fun _ _ _ h => h) (Or.inl ⟨by rfl, ?_⟩) ?_ ?_
                    rotate_left
                    · intro w'
                      go_simp
                      first
                        | with_reducible rfl
                        | (rw [if_neg (by simp only [ByteArray.size_append, yz1, yz4, yz8, yz7] at *; omega)])
                    rotate_left
                    · simp only [Act.put, List.setIfInBounds_toArray, List.set_cons_zero, List.set_cons_succ, i64_w, i32_w]
                      rfl
                    refine one_ (i := 15) (N := some 22) #[true, true, true, true, true, true, true, true, true, true, true, true, true, true, true, true, false, false, true, true, false, false, false, false] rfl rfl (one_of HT_.out (by kernel_rfl)) (by decide) (fun K hK => ?_)
                    refine goes_ Tryd.func62 (by kernel_rfl) rfl #[.int .i64 a0_3] (by rfl) rfl rfl (by (try simp only [List.map_toArray, List.map_cons, List.map_nil]); first | done | rfl | (simp only [List.length_drop, List.length_take]; rfl)) ?_
                    with_reducible refine (impl_decimal.calls a0_3 t279 _ A11.out).mono ?_
                    rintro e w22 ⟨rfl, hb⟩
                    refine ⟨_, rfl, ?_⟩
                    have n0_ := Aside0.mk (blk_below (g := gb275) (o := .cells #[.int .i64 a0_0, .string a0_1, .int .i64 a0_2, .int .i64 a0_3, .int .i64 a0_4] 26 (0, 0)) (by (with_reducible repeat (first | refine blk_drewN ?_ _ | refine blk_drew ?_ | refine blk_alloc ?_ _)); exact BK275.out) hb)
                    have n1_ := Aside0.mk (below_step (by repeat (first | (with_reducible first | exact HB.out | apply below_alloc | apply pw_below_drewN | apply below_drew1 | refine below_set ?_ GE275.out) | exact HB.out)) hb)
                    clear BK275
                    clear HB
                    have BK275 := n0_
                    have HB := n1_
                    clear n0_ n1_
                    (try clear hb)
                    (try clear hb2)
                    (try clear hk)
                    (try clear hi)
                    refine hK.out _ _ ⟨(blk_cell BK275.out 0).trans rfl, (blk_cell BK275.out 1).trans rfl, (blk_cell BK275.out 2).trans rfl, (blk_cell BK275.out 3).trans rfl, (blk_cell BK275.out 4).trans rfl⟩ (fun hHeld => ?_)
                    clear hK K
                    refine norm_ (a' := ?_) ?_ ?_
                    rotate_left
                    · show Act.put _ (some 22) _ = _
                      simp only [Act.put, List.setIfInBounds_toArray, List.set_cons_zero, List.set_cons_succ, i64_w, i32_w]
                      rfl
                    refine pure_ (i := 16) (N := some 23) (v := ?_) (a' := ?_) #[true, true, true, true, true, true, true, true, true, true, true, true, true, true, true, true, true, false, true, true, false, false, false, false] rfl rfl (any_of HT_.out (by kernel_rfl)) (fun _ _ _ h => h) (Or.inl ⟨by rfl, ?_⟩) ?_ ?_
                    rotate_left
                    · intro w'
                      go_simp
                      first
                        | with_reducible rfl
                        | (rw [if_neg (by simp only [ByteArray.size_append, yz1, yz4, yz8, yz7] at *; omega)])
                    rotate_left
                    · simp only [Act.put, List.setIfInBounds_toArray, List.set_cons_zero, List.set_cons_succ, i64_w, i32_w]
                      rfl
                    refine pure_ (i := 17) (N := some 24) (v := ?_) (a' := ?_) #[true, true, true, true, true, true, true, true, true, true, true, true, true, true, true, true, true, true, true, true, false, false, false, false] rfl rfl (any_of HT_.out (by kernel_rfl)) (fun _ _ _ h => h) (Or.inl ⟨by rfl, ?_⟩) ?_ ?_
                    rotate_left
                    · intro w'
                      go_simp
                      first
                        | with_reducible rfl
                        | (rw [if_neg (by simp only [ByteArray.size_append, yz1, yz4, yz8, yz7] at *; omega)])
                    rotate_left
                    · simp only [Act.put, List.setIfInBounds_toArray, List.set_cons_zero, List.set_cons_succ, i64_w, i32_w]
                      rfl
                    refine one_ (i := 20) (N := some 27) #[true, true, true, true, true, true, true, true, true, true, true, true, true, true, true, true, true, true, true, true, true, false, false, false] rfl rfl (one_of HT_.out (by kernel_rfl)) (by decide) (fun K hK => ?_)
                    refine goes_ Tryd.func62 (by kernel_rfl) rfl #[.int .i64 a0_4] (by rfl) rfl rfl (by (try simp only [List.map_toArray, List.map_cons, List.map_nil]); first | done | rfl | (simp only [List.length_drop, List.length_take]; rfl)) ?_
                    with_reducible refine (impl_decimal.calls a0_4 t280 _ A14.out).mono ?_
                    rintro e w23 ⟨rfl, hb⟩
                    refine ⟨_, rfl, ?_⟩
                    have n0_ := Aside0.mk (blk_below (g := gb275) (o := .cells #[.int .i64 a0_0, .string a0_1, .int .i64 a0_2, .int .i64 a0_3, .int .i64 a0_4] 26 (0, 0)) (by (with_reducible repeat (first | refine blk_drewN ?_ _ | refine blk_drew ?_ | refine blk_alloc ?_ _)); exact BK275.out) hb)
                    have n1_ := Aside0.mk (below_step (by repeat (first | (with_reducible first | exact HB.out | apply below_alloc | apply pw_below_drewN | apply below_drew1 | refine below_set ?_ GE275.out) | exact HB.out)) hb)
                    clear BK275
                    clear HB
                    have BK275 := n0_
                    have HB := n1_
                    clear n0_ n1_
                    (try clear hb)
                    (try clear hb2)
                    (try clear hk)
                    (try clear hi)
                    refine hK.out _ _ ⟨(blk_cell BK275.out 0).trans rfl, (blk_cell BK275.out 1).trans rfl, (blk_cell BK275.out 2).trans rfl, (blk_cell BK275.out 3).trans rfl, (blk_cell BK275.out 4).trans rfl⟩ (fun hHeld => ?_)
                    clear hK K
                    refine norm_ (a' := ?_) ?_ ?_
                    rotate_left
                    · show Act.put _ (some 27) _ = _
                      simp only [Act.put, List.setIfInBounds_toArray, List.set_cons_zero, List.set_cons_succ, i64_w, i32_w]
                      rfl
                    refine pure_ (i := 21) (N := some 28) (v := ?_) (a' := ?_) #[true, true, true, true, true, true, true, true, true, true, true, true, true, true, true, true, true, true, true, true, true, true, false, false] rfl rfl (any_of HT_.out (by kernel_rfl)) (fun _ _ _ h => h) (Or.inl ⟨by rfl, ?_⟩) ?_ ?_
                    rotate_left
                    · intro w'
                      go_simp
                      first
                        | with_reducible rfl
                        | (rw [if_neg (by simp only [ByteArray.size_append, yz1, yz4, yz8, yz7] at *; omega)])
                    rotate_left
                    · simp only [Act.put, List.setIfInBounds_toArray, List.set_cons_zero, List.set_cons_succ, i64_w, i32_w]
                      rfl
                    refine pure_ (i := 22) (N := some 2) (v := ?_) (a' := ?_) #[true, true, true, true, true, true, true, true, true, true, true, true, true, true, true, true, true, true, true, true, true, true, true, false] rfl rfl (any_of HT_.out (by kernel_rfl)) (fun _ _ _ h => h) (Or.inl ⟨by rfl, ?_⟩) ?_ ?_
                    rotate_left
                    · intro w'
                      go_simp
                      first
                        | with_reducible rfl
                        | (rw [if_neg (by simp only [ByteArray.size_append, yz1, yz4, yz8, yz7] at *; omega)])
                    rotate_left
                    · simp only [Act.put, List.setIfInBounds_toArray, List.set_cons_zero, List.set_cons_succ, i64_w, i32_w]
                      rfl
                    refine pure_ (i := 23) (N := some 3) (v := ?_) (a' := ?_) #[true, true, true, true, true, true, true, true, true, true, true, true, true, true, true, true, true, true, true, true, true, true, true, true] rfl rfl (any_of HT_.out (by kernel_rfl)) (fun _ _ _ h => h) (Or.inl ⟨by rfl, ?_⟩) ?_ ?_
                    rotate_left
                    · intro w'
                      go_simp
                      first
                        | with_reducible rfl
                        | (rw [if_neg (by simp only [ByteArray.size_append, yz1, yz4, yz8, yz7] at *; omega)])
                    rotate_left
                    · simp only [Act.put, List.setIfInBounds_toArray, List.set_cons_zero, List.set_cons_succ, i64_w, i32_w]
                      rfl
                    refine done_ (done_of HT_.out (by kernel_rfl)) ?_
                    try go_wp2
                    go_ret2
                    exact ⟨by first | rfl | (simp [errW_none, errW_some] <;> rfl) | (simp [*, errW_none, errW_some] <;> rfl), by repeat (first | (with_reducible first | exact HB.out | apply below_alloc | apply pw_below_drewN | apply below_drew1 | refine below_set ?_ GE275.out) | exact HB.out)⟩
                  · rw [if_neg c15] at H
                    exact absurd H (by simp)
                · rw [if_neg c13] at H
                  exact absurd H (by simp)
              · rw [if_neg c12] at H
                exact absurd H (by simp)
            · rw [if_neg c10] at H
              exact absurd H (by simp)
          · rw [if_neg c9] at H
            exact absurd H (by simp)
        · rw [if_neg c7] at H
          exact absurd H (by simp)
      · rw [if_neg c6] at H
        exact absurd H (by simp)
    · rw [if_neg c5] at H
      exact absurd H (by simp)
  · replace c3 := Bool.eq_false_iff.mpr c3
    subst c3
    have H1 : (some ((⟨#[]⟩ : ByteArray), false)) = some (r1, r2) := by rw [if_neg (show ¬ (false = true) by decide)] at H; exact H
    clear H
    have H := H1
    clear H1
    simp only [Option.some.injEq, Prod.mk.injEq] at H
    obtain ⟨rfl, rfl⟩ := H
    go_enter Tryd.func33, Tryd.ntmps33
    go_wp2_with (first | ((with_reducible refine gate_dst (N := 1) rfl ?_); refine box_event ?hg (N := 1) ?hd (cs := #[.int .i64 a0_0, .string a0_1, .int .i64 a0_2, .int .i64 a0_3, .int .i64 a0_4]) (t := 26) ?hr ?_; (case hd => rfl); (case hg => rfl); (case hr => first | (go_simp; done) | (go_simp; rfl)); intro gb275 hg w24 hbox hb; have n0_ := Aside0.mk (below_step (by repeat (first | (with_reducible first | exact HB.out | apply below_alloc | apply pw_below_drewN | apply below_drew1) | exact HB.out)) hb); have n1_ := Aside0.mk (hbox); have n2_ := Aside0.mk ((by rw [hg]; exact (below_size (by repeat (first | (with_reducible first | exact HB.out | apply below_alloc | apply pw_below_drewN | apply below_drew1) | exact HB.out))) : w.heap.size ≤ gb275)); have n3_ := Aside0.mk ((by rw [hg]; exact (below_size (by repeat (first | (with_reducible first | exact HB.out | apply below_alloc | apply pw_below_drewN | apply below_drew1) | exact HB.out))) : w.heap.size ≤ gb275)); clear HB; have HB := n0_; have BK275 := n1_; have GW275 := n2_; have GE275 := n3_; clear n0_ n1_ n2_ n3_; clear hb hbox hg; have hcz25_0 : w24.cell? ⟨gb275, 0, none⟩ = some (.int .i64 a0_0) := (blk_cell BK275.out 0).trans rfl; have hcz25_1 : w24.cell? ⟨gb275, 1, none⟩ = some (.string a0_1) := (blk_cell BK275.out 1).trans rfl; have hcz25_2 : w24.cell? ⟨gb275, 2, none⟩ = some (.int .i64 a0_2) := (blk_cell BK275.out 2).trans rfl; have hcz25_3 : w24.cell? ⟨gb275, 3, none⟩ = some (.int .i64 a0_3) := (blk_cell BK275.out 3).trans rfl; have hcz25_4 : w24.cell? ⟨gb275, 4, none⟩ = some (.int .i64 a0_4) := (blk_cell BK275.out 4).trans rfl; have hfz25_0 := blk_frozen BK275.out 0; have hfz25_1 := blk_frozen BK275.out 1; have hfz25_2 := blk_frozen BK275.out 2; have hfz25_3 := blk_frozen BK275.out 3; have hfz25_4 := blk_frozen BK275.out 4) | ((with_reducible refine gate_callee (f := 13) rfl ?_); refine goesL_ (some 5) rfl rfl Tryd.func13 (by kernel_rfl) rfl #[.agg #[.int .i64 a0_0, .string a0_1, .int .i64 a0_2, .int .i64 a0_3, .int .i64 a0_4]] rfl (by (try simp only [List.map_toArray, List.map_cons, List.map_nil]); first | done | rfl | (simp only [List.length_drop, List.length_take]; rfl)) ?_; (with_reducible refine (impl_IsShade.calls a0_0 a0_1 a0_2 a0_3 a0_4 false _ A2.out).mono ?_); rintro e w26 ⟨rfl, hb⟩; refine ⟨_, rfl, ?_⟩; have n0_ := Aside0.mk (blk_below (g := gb275) (o := .cells #[.int .i64 a0_0, .string a0_1, .int .i64 a0_2, .int .i64 a0_3, .int .i64 a0_4] 26 (0, 0)) (by (with_reducible repeat (first | refine blk_drewN ?_ _ | refine blk_drew ?_ | refine blk_alloc ?_ _)); exact BK275.out) hb); have n1_ := Aside0.mk (below_step (by repeat (first | (with_reducible first | exact HB.out | apply below_alloc | apply pw_below_drewN | apply below_drew1 | refine below_set ?_ GE275.out) | exact HB.out)) hb); clear BK275; clear HB; have BK275 := n0_; have HB := n1_; clear n0_ n1_; (try clear hb); (try clear hb2); (try clear hk); (try clear hi)))
    go_ret2
    exact ⟨by first | rfl | (simp [errW_none, errW_some] <;> rfl) | (simp [*, errW_none, errW_some] <;> rfl), by repeat (first | (with_reducible first | exact HB.out | apply below_alloc | apply pw_below_drewN | apply below_drew1 | refine below_set ?_ GE275.out) | exact HB.out)⟩

end Go.Proofs.YtcfkgcdhioamnaaDoor.G
