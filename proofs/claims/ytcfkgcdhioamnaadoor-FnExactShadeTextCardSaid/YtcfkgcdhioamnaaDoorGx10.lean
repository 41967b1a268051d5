-- Printed by a program of this session (wip/tools/gp.sh); Lean checks it.
import Derived.Test.YtcfkgcdhioamnaaDoorGx0
namespace Go.Proofs.YtcfkgcdhioamnaaDoor.G
open Go.RowKit Go.Proofs.YtcfkgcdhioamnaaDoorW.PrintWords Go.Proofs.YtcfkgcdhioamnaaDoorW.PrintLast Go.Proofs.YtcfkgcdhioamnaaDoorW.PrintMore
attribute [local go_sem] isSome_setCell_ max2_int min2_int max_two min_two max_three min_three max_four min_four   -- for this text's walks alone
set_option linter.unusedVariables false
set_option linter.unusedSimpArgs false

/-! ### impl_decimal: function 62 -/
def impl_decimal.f (a0 : Int) : Option (ByteArray) := if 0 ≤ a0 ∧ a0 < 100 then some (⟨(Lib.decDigits a0.toNat).toArray⟩ : ByteArray) else none
theorem impl_decimal.calls (a0 : Int) (r : ByteArray) (w : World) (h : impl_decimal.f a0 = some r) :
    Calls Tryd.prog 62 #[.int .i64 a0] w fun e w' => e = .returned (.string r) ∧ Below w.heap.size w w' := by
  unfold impl_decimal.f at h
  by_cases c : 0 ≤ a0 ∧ a0 < 100
  · rw [if_pos c] at h
    obtain rfl := Option.some.inj h
    have HT : ∀ W, Calls Tryd.prog 75 #[.int .i64 a0] W fun e w' => e = .returned (.string ⟨(Lib.decDigits a0.toNat).toArray⟩) ∧ W = w' := fun W => by
      have h1 := Any.strconv_Itoa_small Tryd.laysItoa a0.toNat (by omega) W
      rw [Int.toNat_of_nonneg c.1] at h1
      exact Calls.mono h1 (fun e w' ⟨h2, h3⟩ => ⟨h2, h3.symm⟩)
    clear h
    generalize (⟨(Lib.decDigits a0.toNat).toArray⟩ : ByteArray) = t at HT ⊢
    go_enter Tryd.func62, Tryd.ntmps62
    go_wp2_with (go_at_call 75; refine (HT _).mono ?_; rintro e w' ⟨rfl, rfl⟩)
    go_ret
    exact ⟨rfl, by repeat (first | exact Below.refl _ _ | apply below_alloc | apply pw_below_drewN | apply below_drew1)⟩
  · rw [if_neg c] at h
    cases h


end Go.Proofs.YtcfkgcdhioamnaaDoor.G
