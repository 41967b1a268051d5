-- Printed by a program of this session (wip/tools/gp.sh); Lean checks it.
import Derived.Test.YthcgeejoocpbmaaDoorGx0
import Derived.Test.YthcgeejoocpbmaaDoorGz
import Derived.Test.YthcgeejoocpbmaaDoorGx3
import Derived.Test.YthcgeejoocpbmaaDoorGx11
namespace Go.Proofs.YthcgeejoocpbmaaDoor.G
open Go.RowKit Go.Proofs.YthcgeejoocpbmaaDoorW.PrintWords Go.Proofs.YthcgeejoocpbmaaDoorW.PrintLast Go.Proofs.YthcgeejoocpbmaaDoorW.PrintMore
attribute [local go_sem] isSome_setCell_ max2_int min2_int max_two min_two max_three min_three max_four min_four   -- for this text's walks alone
set_option linter.unusedVariables false
set_option linter.unusedSimpArgs false
-- zlits
theorem zl12_0 : (⟨#[32]⟩ : ByteArray).size = 1 := rfl
theorem zl12_1 : (⟨#[44]⟩ : ByteArray).size = 1 := rfl

/-! ### impl_ParseShade: function 8 -/
def impl_ParseShade.f (k : Nat) (a0 : ByteArray) : Option (Int × ByteArray × Int × Int × Int × Bool) := (strings_ReplaceAll.f a0 (⟨#[44]⟩ : ByteArray) (⟨#[]⟩ : ByteArray)).bind fun t219 => ((strings_Split.f k t219 (⟨#[32]⟩ : ByteArray)).bind fun t220 => (if (t220.length : Int) = 8 then (if 0 < (t220.length : Int) then (if 3 < (t220.length : Int) then (if 5 < (t220.length : Int) then (if 7 < (t220.length : Int) then ((impl_parseInts.f k (([rdOf ByteArray.empty t220 0, rdOf ByteArray.empty t220 3, rdOf ByteArray.empty t220 5, rdOf ByteArray.empty t220 7] : List ByteArray))).bind fun bt230 => (if bt230.2 = true then (if 0 < (bt230.1.length : Int) then (if 1 < (t220.length : Int) then (if 1 < (bt230.1.length : Int) then (if 2 < (bt230.1.length : Int) then (if 3 < (bt230.1.length : Int) then ((impl_ShadeText.f (rd bt230.1 0) (rdOf ByteArray.empty t220 1) (rd bt230.1 1) (rd bt230.1 2) (rd bt230.1 3)).bind fun bt240 => (if bt240.2 = true then (if bt240.1.toList = a0.toList then (some (rd bt230.1 0, rdOf ByteArray.empty t220 1, rd bt230.1 1, rd bt230.1 2, rd bt230.1 3, true)) else (some (0, (⟨#[]⟩ : ByteArray), 0, 0, 0, false))) else (some (0, (⟨#[]⟩ : ByteArray), 0, 0, 0, false)))) else (none)) else (none)) else (none)) else (none)) else (none)) else (some (0, (⟨#[]⟩ : ByteArray), 0, 0, 0, false)))) else (none)) else (none)) else (none)) else (none)) else (some (0, (⟨#[]⟩ : ByteArray), 0, 0, 0, false))))
theorem impl_ParseShade.mono : ∀ a0 k, LeO (impl_ParseShade.f k a0) (impl_ParseShade.f (k + 1) a0) := by
 intro a0 k
 unfold impl_ParseShade.f
 repeat' first
   | (with_reducible exact impl_parseInts.mono _ _)
   | (with_reducible exact strings_Split.mono _ _ _)
   | (with_reducible exact LeO.refl _)
   | (with_reducible exact LeO.none _)
   | (with_reducible refine LeO.ite ?_ ?_)
   | (with_reducible refine LeO.bind ?_ (fun _ => ?_))
   | exact impl_parseInts.mono _ _
   | exact strings_Split.mono _ _ _
   | exact LeO.none _
   | refine LeO.ite ?_ ?_
   | refine LeO.bind ?_ (fun _ => ?_)
def impl_ParseShade.T4 : Bool × List (List Nat × List Nat) := (true, [([], []), ([0], [0]), ([1], [1]), ([], []), ([3], [3]), ([4], [4]), ([], []), ([6], [6]), ([7], [7]), ([], []), ([9], [9]), ([10], [10]), ([2, 5, 8, 11], [2, 5, 8, 11]), ([12], [12]), ([13], [13]), ([14], [14]), ([14], [14]), ([15, 13, 0, 1, 2, 3, 4, 5, 6, 7, 8, 9, 10, 11, 12, 13, 14, 15], [15]), ([16, 17, 0, 1, 2, 3, 4, 5, 6, 7, 8, 9, 10, 11, 12, 13, 14, 15, 16, 17], [16])])
def impl_ParseShade.B4 : List Nat := [0, 1, 3, 0, 8, 24, 0, 64, 192, 0, 512, 1536, 4095, 8191, 16383, 32767, 32767, 65535, 262143]
theorem impl_ParseShade.tab4 : rtab .any (opsOf Tryd.f8 4) = impl_ParseShade.T4 := by kernel_rfl
theorem impl_ParseShade.bits4 : waitsOk impl_ParseShade.T4.2 impl_ParseShade.B4 = true := by kernel_rfl
def impl_ParseShade.T7 : Bool × List (List Nat × List Nat) := (true, [([], []), ([0], [0]), ([1], [1]), ([], []), ([3], [3]), ([4], [4]), ([], []), ([6], [6]), ([7], [7]), ([], []), ([9], [9]), ([10], [10]), ([], []), ([12], [12]), ([13], [13]), ([2, 5, 8, 11, 14], [2, 5, 8, 11, 14]), ([], []), ([16, 15, 0, 1, 2, 3, 4, 5, 6, 7, 8, 9, 10, 11, 12, 13, 14, 15, 16], [15, 16])])
def impl_ParseShade.B7 : List Nat := [0, 1, 3, 0, 8, 24, 0, 64, 192, 0, 512, 1536, 0, 4096, 12288, 32767, 0, 131071]
theorem impl_ParseShade.tab7 : rtab .any (opsOf Tryd.f8 7) = impl_ParseShade.T7 := by kernel_rfl
theorem impl_ParseShade.bits7 : waitsOk impl_ParseShade.T7.2 impl_ParseShade.B7 = true := by kernel_rfl
set_option maxHeartbeats 8000000 in
set_option maxRecDepth 100000 in
theorem impl_ParseShade.calls (k : Nat) (a0 : ByteArray) (r1 : Int) (r2 : ByteArray) (r3 : Int) (r4 : Int) (r5 : Int) (r6 : Bool) (w : World) (h : impl_ParseShade.f k a0 = some (r1, r2, r3, r4, r5, r6)) (hT : TT w) :
  Calls Tryd.prog 8 #[.string a0] w fun e w' => e = .returned (.tuple #[.agg #[.int .i64 r1, .string r2, .int .i64 r3, .int .i64 r4, .int .i64 r5], .bool r6]) ∧ Below w.heap.size w w' := by
 have HT := zA hT; clear hT; have hu26 := Tryd.underlying26; have HB := zA (Below.refl w.heap.size w); have H : ((strings_ReplaceAll.f a0 (⟨#[44]⟩ : ByteArray) (⟨#[]⟩ : ByteArray)).bind fun t219 => ((strings_Split.f k t219 (⟨#[32]⟩ : ByteArray)).bind fun t220 => (if (t220.length : Int) = 8 then (if 0 < (t220.length : Int) then (if 3 < (t220.length : Int) then (if 5 < (t220.length : Int) then (if 7 < (t220.length : Int) then ((impl_parseInts.f k (([rdOf ByteArray.empty t220 0, rdOf ByteArray.empty t220 3, rdOf ByteArray.empty t220 5, rdOf ByteArray.empty t220 7] : List ByteArray))).bind fun bt230 => (if bt230.2 = true then (if 0 < (bt230.1.length : Int) then (if 1 < (t220.length : Int) then (if 1 < (bt230.1.length : Int) then (if 2 < (bt230.1.length : Int) then (if 3 < (bt230.1.length : Int) then ((impl_ShadeText.f (rd bt230.1 0) (rdOf ByteArray.empty t220 1) (rd bt230.1 1) (rd bt230.1 2) (rd bt230.1 3)).bind fun bt240 => (if bt240.2 = true then (if bt240.1.toList = a0.toList then (some (rd bt230.1 0, rdOf ByteArray.empty t220 1, rd bt230.1 1, rd bt230.1 2, rd bt230.1 3, true)) else (some (0, (⟨#[]⟩ : ByteArray), 0, 0, 0, false))) else (some (0, (⟨#[]⟩ : ByteArray), 0, 0, 0, false)))) else (none)) else (none)) else (none)) else (none)) else (none)) else (some (0, (⟨#[]⟩ : ByteArray), 0, 0, 0, false)))) else (none)) else (none)) else (none)) else (none)) else (some (0, (⟨#[]⟩ : ByteArray), 0, 0, 0, false))))) = some (r1, r2, r3, r4, r5, r6) := h; clear h
 replace H := Option.bind_eq_some_iff.mp H
 obtain ⟨t219, A20, H⟩ := H
 replace H : ((strings_Split.f k t219 (⟨#[32]⟩ : ByteArray)).bind fun t220 => (if (t220.length : Int) = 8 then (if 0 < (t220.length : Int) then (if 3 < (t220.length : Int) then (if 5 < (t220.length : Int) then (if 7 < (t220.length : Int) then ((impl_parseInts.f k (([rdOf ByteArray.empty t220 0, rdOf ByteArray.empty t220 3, rdOf ByteArray.empty t220 5, rdOf ByteArray.empty t220 7] : List ByteArray))).bind fun bt230 => (if bt230.2 = true then (if 0 < (bt230.1.length : Int) then (if 1 < (t220.length : Int) then (if 1 < (bt230.1.length : Int) then (if 2 < (bt230.1.length : Int) then (if 3 < (bt230.1.length : Int) then ((impl_ShadeText.f (rd bt230.1 0) (rdOf ByteArray.empty t220 1) (rd bt230.1 1) (rd bt230.1 2) (rd bt230.1 3)).bind fun bt240 => (if bt240.2 = true then (if bt240.1.toList = a0.toList then (some (rd bt230.1 0, rdOf ByteArray.empty t220 1, rd bt230.1 1, rd bt230.1 2, rd bt230.1 3, true)) else (some (0, (⟨#[]⟩ : ByteArray), 0, 0, 0, false))) else (some (0, (⟨#[]⟩ : ByteArray), 0, 0, 0, false)))) else (none)) else (none)) else (none)) else (none)) else (none)) else (some (0, (⟨#[]⟩ : ByteArray), 0, 0, 0, false)))) else (none)) else (none)) else (none)) else (none)) else (some (0, (⟨#[]⟩ : ByteArray), 0, 0, 0, false)))) = some (r1, r2, r3, r4, r5, r6) := H
 have A2 := zA A20; clear A20
 replace H := Option.bind_eq_some_iff.mp H
 obtain ⟨t220, A30, H⟩ := H
 replace H : (if (t220.length : Int) = 8 then (if 0 < (t220.length : Int) then (if 3 < (t220.length : Int) then (if 5 < (t220.length : Int) then (if 7 < (t220.length : Int) then ((impl_parseInts.f k (([rdOf ByteArray.empty t220 0, rdOf ByteArray.empty t220 3, rdOf ByteArray.empty t220 5, rdOf ByteArray.empty t220 7] : List ByteArray))).bind fun bt230 => (if bt230.2 = true then (if 0 < (bt230.1.length : Int) then (if 1 < (t220.length : Int) then (if 1 < (bt230.1.length : Int) then (if 2 < (bt230.1.length : Int) then (if 3 < (bt230.1.length : Int) then ((impl_ShadeText.f (rd bt230.1 0) (rdOf ByteArray.empty t220 1) (rd bt230.1 1) (rd bt230.1 2) (rd bt230.1 3)).bind fun bt240 => (if bt240.2 = true then (if bt240.1.toList = a0.toList then (some (rd bt230.1 0, rdOf ByteArray.empty t220 1, rd bt230.1 1, rd bt230.1 2, rd bt230.1 3, true)) else (some (0, (⟨#[]⟩ : ByteArray), 0, 0, 0, false))) else (some (0, (⟨#[]⟩ : ByteArray), 0, 0, 0, false)))) else (none)) else (none)) else (none)) else (none)) else (none)) else (some (0, (⟨#[]⟩ : ByteArray), 0, 0, 0, false)))) else (none)) else (none)) else (none)) else (none)) else (some (0, (⟨#[]⟩ : ByteArray), 0, 0, 0, false))) = some (r1, r2, r3, r4, r5, r6) := H
 have A3 := zA A30; clear A30
 by_cases c4 : (t220.length : Int) = 8
 ·rw [if_pos c4] at H
  have c4b0 : ((t220.length : Int) == 8) = true := beq_iff_eq.mpr c4; have c4b1 : ((t220.length : Int) != 8) = false := bne_eq_false_iff_eq.mpr c4; clear c4
  by_cases c5 : 0 < (t220.length : Int)
  ·rw [if_pos c5] at H
   have c5b0 : decide (0 < (t220.length : Int)) = true := decide_eq_true c5; have c5b1 : decide (0 < t220.length) = true := decide_eq_true (by omega); clear c5
   by_cases c6 : 3 < (t220.length : Int)
   ·rw [if_pos c6] at H
    have c6b0 : decide (3 < (t220.length : Int)) = true := decide_eq_true c6; have c6b1 : decide (3 < t220.length) = true := decide_eq_true (by omega); clear c6
    by_cases c7 : 5 < (t220.length : Int)
    ·rw [if_pos c7] at H
     have c7b0 : decide (5 < (t220.length : Int)) = true := decide_eq_true c7; have c7b1 : decide (5 < t220.length) = true := decide_eq_true (by omega); clear c7
     by_cases c8 : 7 < (t220.length : Int)
     ·rw [if_pos c8] at H
      have c8b0 : decide (7 < (t220.length : Int)) = true := decide_eq_true c8; have c8b1 : decide (7 < t220.length) = true := decide_eq_true (by omega); clear c8
      obtain ⟨y227, hy227⟩ : ∃ y_ : List ByteArray, y_ = (([rdOf ByteArray.empty t220 0, rdOf ByteArray.empty t220 3, rdOf ByteArray.empty t220 5, rdOf ByteArray.empty t220 7] : List ByteArray)) := ⟨_, rfl⟩
      replace H : ((impl_parseInts.f k y227).bind fun bt230 => (if bt230.2 = true then (if 0 < (bt230.1.length : Int) then (if 1 < (t220.length : Int) then (if 1 < (bt230.1.length : Int) then (if 2 < (bt230.1.length : Int) then (if 3 < (bt230.1.length : Int) then ((impl_ShadeText.f (rd bt230.1 0) (rdOf ByteArray.empty t220 1) (rd bt230.1 1) (rd bt230.1 2) (rd bt230.1 3)).bind fun bt240 => (if bt240.2 = true then (if bt240.1.toList = a0.toList then (some (rd bt230.1 0, rdOf ByteArray.empty t220 1, rd bt230.1 1, rd bt230.1 2, rd bt230.1 3, true)) else (some (0, (⟨#[]⟩ : ByteArray), 0, 0, 0, false))) else (some (0, (⟨#[]⟩ : ByteArray), 0, 0, 0, false)))) else (none)) else (none)) else (none)) else (none)) else (none)) else (some (0, (⟨#[]⟩ : ByteArray), 0, 0, 0, false)))) = some (r1, r2, r3, r4, r5, r6) := by first | (rw [hy227]; with_reducible exact H) | (have H2_ := (Option.bind_some _ _).symm.trans H; rw [hy227]; with_reducible exact H2_) | (have H2_ := (Option.bind_some _ _).symm.trans H; with_reducible exact H2_) | with_reducible exact H | (rw [hy227]; exact H) | exact H
      have Ny227 := zA hy227; clear hy227
      replace H := Option.bind_eq_some_iff.mp H
      obtain ⟨⟨t230, t231⟩, A90, H⟩ := H
      replace H : (if t231 = true then (if 0 < (t230.length : Int) then (if 1 < (t220.length : Int) then (if 1 < (t230.length : Int) then (if 2 < (t230.length : Int) then (if 3 < (t230.length : Int) then ((impl_ShadeText.f (rd t230 0) (rdOf ByteArray.empty t220 1) (rd t230 1) (rd t230 2) (rd t230 3)).bind fun bt240 => (if bt240.2 = true then (if bt240.1.toList = a0.toList then (some (rd t230 0, rdOf ByteArray.empty t220 1, rd t230 1, rd t230 2, rd t230 3, true)) else (some (0, (⟨#[]⟩ : ByteArray), 0, 0, 0, false))) else (some (0, (⟨#[]⟩ : ByteArray), 0, 0, 0, false)))) else (none)) else (none)) else (none)) else (none)) else (none)) else (some (0, (⟨#[]⟩ : ByteArray), 0, 0, 0, false))) = some (r1, r2, r3, r4, r5, r6) := H
      have A9 := zA A90; clear A90
      by_cases c10 : t231 = true
      ·subst c10
       have H1 : (if 0 < (t230.length : Int) then (if 1 < (t220.length : Int) then (if 1 < (t230.length : Int) then (if 2 < (t230.length : Int) then (if 3 < (t230.length : Int) then ((impl_ShadeText.f (rd t230 0) (rdOf ByteArray.empty t220 1) (rd t230 1) (rd t230 2) (rd t230 3)).bind fun bt240 => (if bt240.2 = true then (if bt240.1.toList = a0.toList then (some (rd t230 0, rdOf ByteArray.empty t220 1, rd t230 1, rd t230 2, rd t230 3, true)) else (some (0, (⟨#[]⟩ : ByteArray), 0, 0, 0, false))) else (some (0, (⟨#[]⟩ : ByteArray), 0, 0, 0, false)))) else (none)) else (none)) else (none)) else (none)) else (none)) = some (r1, r2, r3, r4, r5, r6) := by rw [if_pos rfl] at H; exact H
       clear H; have H := H1; clear H1
       by_cases c11 : 0 < (t230.length : Int)
       ·rw [if_pos c11] at H
        have c11b0 : decide (0 < (t230.length : Int)) = true := decide_eq_true c11; have c11b1 : decide (0 < t230.length) = true := decide_eq_true (by omega); clear c11
        by_cases c12 : 1 < (t220.length : Int)
        ·rw [if_pos c12] at H
         have c12b0 : decide (1 < (t220.length : Int)) = true := decide_eq_true c12; have c12b1 : decide (1 < t220.length) = true := decide_eq_true (by omega); clear c12
         by_cases c13 : 1 < (t230.length : Int)
         ·rw [if_pos c13] at H
          have c13b0 : decide (1 < (t230.length : Int)) = true := decide_eq_true c13; have c13b1 : decide (1 < t230.length) = true := decide_eq_true (by omega); clear c13
          by_cases c14 : 2 < (t230.length : Int)
          ·rw [if_pos c14] at H
           have c14b0 : decide (2 < (t230.length : Int)) = true := decide_eq_true c14; have c14b1 : decide (2 < t230.length) = true := decide_eq_true (by omega); clear c14
           by_cases c15 : 3 < (t230.length : Int)
           ·rw [if_pos c15] at H
            have c15b0 : decide (3 < (t230.length : Int)) = true := decide_eq_true c15; have c15b1 : decide (3 < t230.length) = true := decide_eq_true (by omega); clear c15
            replace H := Option.bind_eq_some_iff.mp H
            obtain ⟨⟨t240, t241⟩, A160, H⟩ := H
            replace H : (if t241 = true then (if t240.toList = a0.toList then (some (rd t230 0, rdOf ByteArray.empty t220 1, rd t230 1, rd t230 2, rd t230 3, true)) else (some (0, (⟨#[]⟩ : ByteArray), 0, 0, 0, false))) else (some (0, (⟨#[]⟩ : ByteArray), 0, 0, 0, false))) = some (r1, r2, r3, r4, r5, r6) := H
            have A16 := zA A160; clear A160
            by_cases c17 : t241 = true
            ·subst c17
             have H1 : (if t240.toList = a0.toList then (some (rd t230 0, rdOf ByteArray.empty t220 1, rd t230 1, rd t230 2, rd t230 3, true)) else (some (0, (⟨#[]⟩ : ByteArray), 0, 0, 0, false))) = some (r1, r2, r3, r4, r5, r6) := by rw [if_pos rfl] at H; exact H
             clear H; have H := H1; clear H1
             by_cases c18 : t240.toList = a0.toList
             ·rw [if_pos c18] at H
              have c18b0 : (t240.toList == a0.toList) = true := beq_iff_eq.mpr c18; have c18b1 : (t240.toList != a0.toList) = false := bne_eq_false_iff_eq.mpr c18; clear c18
              simp only [Option.some.injEq, Prod.mk.injEq] at H
              obtain ⟨rfl, rfl, rfl, rfl, rfl, rfl⟩ := H
              go_enter Tryd.func8, Tryd.ntmps8
              try go_wp2_with (first | ((with_reducible refine gate_dst (N := 2) rfl ?_); refine box_event ?hg (N := 2) ?hd (cs := #[.int .i64 0, .string (⟨#[]⟩ : ByteArray), .int .i64 0, .int .i64 0, .int .i64 0]) (t := 26) ?hr ?_; (case hd => rfl); (case hg => rfl); (case hr => first | (go_simp; done) | (go_simp; rfl)); intro gb218 hg w19 hbox hb; have n0_ := zA (below_step (zW HB) hb); have n1_ := zA (hbox); have n2_ := zA ((by rw [hg]; exact (below_size (zW HB)) : w.heap.size ≤ gb218)); have n3_ := zA ((by rw [hg]; exact (below_size (zW HB)) : w.heap.size ≤ gb218)); clear HB; have HB := n0_; have BK218 := n1_; have GW218 := n2_; have GE218 := n3_; clear n0_ n1_ n2_ n3_; clear hb hbox hg) | ((with_reducible refine gate_callee (f := 18) rfl ?_); refine goesL_ (some 11) rfl rfl Tryd.func18 (by kernel_rfl) rfl #[.string a0, .string (⟨#[44]⟩ : ByteArray), .string (⟨#[]⟩ : ByteArray)] rfl (zM) ?_; (with_reducible refine (strings_ReplaceAll.calls a0 (⟨#[44]⟩ : ByteArray) (⟨#[]⟩ : ByteArray) t219 _ A2.out (TT_below HT.out (by repeat (first | (with_reducible first | exact HB.out | apply below_alloc | apply pw_below_drewN | apply below_drew1 | refine below_set ?_ GE218.out) | exact HB.out | exact Below.refl _ _)))).mono ?_); rintro e w20 ⟨rfl, hb⟩; refine ⟨_, rfl, ?_⟩; have n0_ := zA (blk_below (g := gb218) (o := .cells #[.int .i64 0, .string (⟨#[]⟩ : ByteArray), .int .i64 0, .int .i64 0, .int .i64 0] 26 (0, 0)) (zB BK218) hb); have n1_ := zA (below_step (zW1 HB GE218) hb); clear BK218; clear HB; have BK218 := n0_; have HB := n1_; clear n0_ n1_; (try clear hb); (try clear hb2); (try clear hk); (try clear hi)) | ((with_reducible refine gate_callee (f := 17) rfl ?_); refine goesL_ (some 12) rfl rfl Tryd.func17 (by kernel_rfl) rfl #[.string t219, .string (⟨#[32]⟩ : ByteArray)] rfl (zM) ?_; (with_reducible refine (strings_Split.calls k t219 (⟨#[32]⟩ : ByteArray) t220 _ A3.out).mono ?_); rintro e w21 ⟨v221, rfl, ho0, hb⟩; refine ⟨_, rfl, ?_⟩; have n0_ := zA (Kd.R_lower ho0 (below_size (zW1 HB GE218))); have n1_ := zA (blk_below (g := gb218) (o := .cells #[.int .i64 0, .string (⟨#[]⟩ : ByteArray), .int .i64 0, .int .i64 0, .int .i64 0] 26 (0, 0)) (zB BK218) hb); have n2_ := zA (below_step (zW1 HB GE218) hb); clear BK218; clear HB; have HO222 := n0_; have BK218 := n1_; have HB := n2_; clear n0_ n1_ n2_; (try clear hb); (try clear hb2); (try clear hk); (try clear hi); (try clear ho0); obtain ⟨Ao22, co22, eo22⟩ := Kd.R_slice HO222.out; subst eo22))
              have n0_ := zA (Kd.R_drew HO222.out); have n1_ := zA (blk_drew BK218.out); have n2_ := zA (below_drew1 HB.out); clear HO222; clear BK218; clear HB; have HO222 := n0_; have BK218 := n1_; have HB := n2_; clear n0_ n1_ n2_; have p223 : 0 ≤ (0 : Int) := (by omega); have q223 : 0 < (t220.length : Int) := of_decide_eq_true (by first | (with_reducible assumption) | assumption)
              obtain ⟨ad223, e223, hx223_0⟩ := Kd.at_string (Kd.R_reads' HO222.out).2.2 0 p223 q223
              cases e223
              have qi223 : (0 < t220.length) = True := eq_true (by omega)
              (try rw [show ((0 : Int)).toNat = 0 from rfl] at hx223_0)
              (try rw [Addr.add_zero'] at hx223_0)
              replace p223 := eq_true p223
              replace q223 := eq_true q223
              have p224 : 0 ≤ (3 : Int) := (by omega); have q224 : 3 < (t220.length : Int) := of_decide_eq_true (by first | (with_reducible assumption) | assumption)
              obtain ⟨ad224, e224, hx224_0⟩ := Kd.at_string (Kd.R_reads' HO222.out).2.2 3 p224 q224
              obtain rfl : ad223 = ad224 := (by injection e224)
              (try simp only [show (3 : Int).toNat = 3 from rfl, Nat.reduceMul, Nat.reduceEqDiff, Go.Addr.add, ↓reduceIte] at hx224_0)
              have qi224 : (3 < t220.length) = True := eq_true (by omega)
              (try rw [show ((3 : Int)).toNat = 3 from rfl] at hx224_0)
              replace p224 := eq_true p224
              replace q224 := eq_true q224
              have p225 : 0 ≤ (5 : Int) := (by omega); have q225 : 5 < (t220.length : Int) := of_decide_eq_true (by first | (with_reducible assumption) | assumption)
              obtain ⟨ad225, e225, hx225_0⟩ := Kd.at_string (Kd.R_reads' HO222.out).2.2 5 p225 q225
              obtain rfl : ad223 = ad225 := (by injection e225)
              (try simp only [show (5 : Int).toNat = 5 from rfl, Nat.reduceMul, Nat.reduceEqDiff, Go.Addr.add, ↓reduceIte] at hx225_0)
              have qi225 : (5 < t220.length) = True := eq_true (by omega)
              (try rw [show ((5 : Int)).toNat = 5 from rfl] at hx225_0)
              replace p225 := eq_true p225
              replace q225 := eq_true q225
              have p226 : 0 ≤ (7 : Int) := (by omega); have q226 : 7 < (t220.length : Int) := of_decide_eq_true (by first | (with_reducible assumption) | assumption)
              obtain ⟨ad226, e226, hx226_0⟩ := Kd.at_string (Kd.R_reads' HO222.out).2.2 7 p226 q226
              obtain rfl : ad223 = ad226 := (by injection e226)
              (try simp only [show (7 : Int).toNat = 7 from rfl, Nat.reduceMul, Nat.reduceEqDiff, Go.Addr.add, ↓reduceIte] at hx226_0)
              have qi226 : (7 < t220.length) = True := eq_true (by omega)
              (try rw [show ((7 : Int)).toNat = 7 from rfl] at hx226_0)
              replace p226 := eq_true p226
              replace q226 := eq_true q226
              refine start_ (n := 19) (S := fun w' => w'.cell? ad223 = some (.string (rdOf ByteArray.empty t220 0)) ∧ w'.cell? ⟨ad223.block, ad223.off + 3, none⟩ = some (.string (rdOf ByteArray.empty t220 3)) ∧ w'.cell? ⟨ad223.block, ad223.off + 5, none⟩ = some (.string (rdOf ByteArray.empty t220 5)) ∧ w'.cell? ⟨ad223.block, ad223.off + 7, none⟩ = some (.string (rdOf ByteArray.empty t220 7))) (ds := []) #[false, false, false, false, false, false, false, false, false, false, false, false, false, false, false, false, false, false, false] (by kernel_rfl) rfl rfl ⟨hx223_0, hx224_0, hx225_0, hx226_0⟩ (fun hHeld => ?_); refine with_tabW impl_ParseShade.tab4 impl_ParseShade.bits4 (fun HT_ HW_ => ?_)
              generalize w21.drew = w23 at HO222 BK218 HB hx223_0 hx224_0 hx225_0 hx226_0 hHeld ⊢
              refine pure_ (i := 0) (N := some 18) (v := ?_) (a' := ?_) #[true, false, false, false, false, false, false, false, false, false, false, false, false, false, false, false, false, false, false] rfl rfl (any_of HT_.out (by kernel_rfl)) (fun _ _ _ h => h) (Or.inl ⟨by rfl, ?_⟩) ?_ ?_
              rotate_left
              ·intro w'
               go_simp
               first
                | with_reducible rfl
                | (rw [if_neg (by simp only [ByteArray.size_append, zl12_0, zl12_1, ByteArray.size_extract] at *; omega)])
              rotate_left
              ·simp only [Act.put, List.setIfInBounds_toArray, List.set_cons_zero, List.set_cons_succ, i64_w, i32_w]
               rfl
              refine pure_ (i := 1) (N := some 19) (v := ?_) (a' := ?_) #[true, true, false, false, false, false, false, false, false, false, false, false, false, false, false, false, false, false, false] rfl rfl (any_of HT_.out (by kernel_rfl)) (fun _ _ _ h => h) (Or.inl ⟨by rfl, ?_⟩) ?_ ?_
              rotate_left
              ·intro w'
               go_simp
               first
                | with_reducible rfl
                | (rw [if_neg (by simp only [ByteArray.size_append, zl12_0, zl12_1, ByteArray.size_extract] at *; omega)])
              rotate_left
              ·simp only [Act.put, List.setIfInBounds_toArray, List.set_cons_zero, List.set_cons_succ, i64_w, i32_w]
               rfl
              refine pure_ (i := 3) (N := some 21) (v := ?_) (a' := ?_) #[true, true, false, true, false, false, false, false, false, false, false, false, false, false, false, false, false, false, false] rfl rfl (any_of HT_.out (by kernel_rfl)) (fun _ _ _ h => h) (Or.inl ⟨by rfl, ?_⟩) ?_ ?_
              rotate_left
              ·intro w'
               go_simp
               first
                | with_reducible rfl
                | (rw [if_neg (by simp only [ByteArray.size_append, zl12_0, zl12_1, ByteArray.size_extract] at *; omega)])
              rotate_left
              ·simp only [Act.put, List.setIfInBounds_toArray, List.set_cons_zero, List.set_cons_succ, i64_w, i32_w]
               rfl
              refine pure_ (i := 4) (N := some 22) (v := ?_) (a' := ?_) #[true, true, false, true, true, false, false, false, false, false, false, false, false, false, false, false, false, false, false] rfl rfl (any_of HT_.out (by kernel_rfl)) (fun _ _ _ h => h) (Or.inl ⟨by rfl, ?_⟩) ?_ ?_
              rotate_left
              ·intro w'
               go_simp
               first
                | with_reducible rfl
                | (rw [if_neg (by simp only [ByteArray.size_append, zl12_0, zl12_1, ByteArray.size_extract] at *; omega)])
              rotate_left
              ·simp only [Act.put, List.setIfInBounds_toArray, List.set_cons_zero, List.set_cons_succ, i64_w, i32_w]
               rfl
              refine pure_ (i := 6) (N := some 24) (v := ?_) (a' := ?_) #[true, true, false, true, true, false, true, false, false, false, false, false, false, false, false, false, false, false, false] rfl rfl (any_of HT_.out (by kernel_rfl)) (fun _ _ _ h => h) (Or.inl ⟨by rfl, ?_⟩) ?_ ?_
              rotate_left
              ·intro w'
               go_simp
               first
                | with_reducible rfl
                | (rw [if_neg (by simp only [ByteArray.size_append, zl12_0, zl12_1, ByteArray.size_extract] at *; omega)])
              rotate_left
              ·simp only [Act.put, List.setIfInBounds_toArray, List.set_cons_zero, List.set_cons_succ, i64_w, i32_w]
               rfl
              refine pure_ (i := 7) (N := some 25) (v := ?_) (a' := ?_) #[true, true, false, true, true, false, true, true, false, false, false, false, false, false, false, false, false, false, false] rfl rfl (any_of HT_.out (by kernel_rfl)) (fun _ _ _ h => h) (Or.inl ⟨by rfl, ?_⟩) ?_ ?_
              rotate_left
              ·intro w'
               go_simp
               first
                | with_reducible rfl
                | (rw [if_neg (by simp only [ByteArray.size_append, zl12_0, zl12_1, ByteArray.size_extract] at *; omega)])
              rotate_left
              ·simp only [Act.put, List.setIfInBounds_toArray, List.set_cons_zero, List.set_cons_succ, i64_w, i32_w]
               rfl
              refine pure_ (i := 9) (N := some 27) (v := ?_) (a' := ?_) #[true, true, false, true, true, false, true, true, false, true, false, false, false, false, false, false, false, false, false] rfl rfl (any_of HT_.out (by kernel_rfl)) (fun _ _ _ h => h) (Or.inl ⟨by rfl, ?_⟩) ?_ ?_
              rotate_left
              ·intro w'
               go_simp
               first
                | with_reducible rfl
                | (rw [if_neg (by simp only [ByteArray.size_append, zl12_0, zl12_1, ByteArray.size_extract] at *; omega)])
              rotate_left
              ·simp only [Act.put, List.setIfInBounds_toArray, List.set_cons_zero, List.set_cons_succ, i64_w, i32_w]
               rfl
              refine pure_ (i := 10) (N := some 28) (v := ?_) (a' := ?_) #[true, true, false, true, true, false, true, true, false, true, true, false, false, false, false, false, false, false, false] rfl rfl (any_of HT_.out (by kernel_rfl)) (fun _ _ _ h => h) (Or.inl ⟨by rfl, ?_⟩) ?_ ?_
              rotate_left
              ·intro w'
               go_simp
               first
                | with_reducible rfl
                | (rw [if_neg (by simp only [ByteArray.size_append, zl12_0, zl12_1, ByteArray.size_extract] at *; omega)])
              rotate_left
              ·simp only [Act.put, List.setIfInBounds_toArray, List.set_cons_zero, List.set_cons_succ, i64_w, i32_w]
               rfl
              refine take_ (i := 2) (N := some 20) (v := ?_) (a' := ?_) #[true, true, true, true, true, false, true, true, false, true, true, false, false, false, false, false, false, false, false] rfl rfl (take_ofW HT_.out HW_.out (by kernel_rfl)) (fun _ _ _ h => h) (Or.inl ⟨by rfl, ?_⟩) hHeld ?_ ?_
              rotate_left
              ·rintro w' ⟨s0, s1, s2, s3⟩
               go_simp
               with_reducible rfl
              rotate_left
              ·simp only [Act.put, List.setIfInBounds_toArray, List.set_cons_zero, List.set_cons_succ, i64_w, i32_w]
               rfl
              refine take_ (i := 5) (N := some 23) (v := ?_) (a' := ?_) #[true, true, true, true, true, true, true, true, false, true, true, false, false, false, false, false, false, false, false] rfl rfl (take_ofW HT_.out HW_.out (by kernel_rfl)) (fun _ _ _ h => h) (Or.inl ⟨by rfl, ?_⟩) hHeld ?_ ?_
              rotate_left
              ·rintro w' ⟨s0, s1, s2, s3⟩
               go_simp
               with_reducible rfl
              rotate_left
              ·simp only [Act.put, List.setIfInBounds_toArray, List.set_cons_zero, List.set_cons_succ, i64_w, i32_w]
               rfl
              refine take_ (i := 8) (N := some 26) (v := ?_) (a' := ?_) #[true, true, true, true, true, true, true, true, true, true, true, false, false, false, false, false, false, false, false] rfl rfl (take_ofW HT_.out HW_.out (by kernel_rfl)) (fun _ _ _ h => h) (Or.inl ⟨by rfl, ?_⟩) hHeld ?_ ?_
              rotate_left
              ·rintro w' ⟨s0, s1, s2, s3⟩
               go_simp
               with_reducible rfl
              rotate_left
              ·simp only [Act.put, List.setIfInBounds_toArray, List.set_cons_zero, List.set_cons_succ, i64_w, i32_w]
               rfl
              refine take_ (i := 11) (N := some 29) (v := ?_) (a' := ?_) #[true, true, true, true, true, true, true, true, true, true, true, true, false, false, false, false, false, false, false] rfl rfl (take_ofW HT_.out HW_.out (by kernel_rfl)) (fun _ _ _ h => h) (Or.inl ⟨by rfl, ?_⟩) hHeld ?_ ?_
              rotate_left
              ·rintro w' ⟨s0, s1, s2, s3⟩
               go_simp
               with_reducible rfl
              rotate_left
              ·simp only [Act.put, List.setIfInBounds_toArray, List.set_cons_zero, List.set_cons_succ, i64_w, i32_w]
               rfl
              refine one_ (i := 12) (N := some 30) #[true, true, true, true, true, true, true, true, true, true, true, true, true, false, false, false, false, false, false] rfl rfl (one_of HT_.out (by kernel_rfl)) (by decide) (fun K hK => ?_)
              refine Kd.R_lit_step Kd.string _ 9 ?hg (N := 30) ?hd (xs := ([rdOf ByteArray.empty t220 0, rdOf ByteArray.empty t220 3, rdOf ByteArray.empty t220 5, rdOf ByteArray.empty t220 7] : List ByteArray)) (inner := [.string (rdOf ByteArray.empty t220 0), .string (rdOf ByteArray.empty t220 3), .string (rdOf ByteArray.empty t220 5), .string (rdOf ByteArray.empty t220 7)]) (ok := fun _ => True) (okp := fun _ => True) ?hr ?hp (fun _ hk => hk) trivial (Below.refl _ _) (Nat.le_refl _) (by simp) ?_; (case hd => rfl); (case hg => rfl); (case hr => first | (go_simp; done) | (go_simp; rfl)); (case hp => exact (Reps.one (show Kd.M Kd.string _ _ _ (rdOf ByteArray.empty t220 0) [.string (rdOf ByteArray.empty t220 0)] from rfl) (Reps.one (show Kd.M Kd.string _ _ _ (rdOf ByteArray.empty t220 3) [.string (rdOf ByteArray.empty t220 3)] from rfl) (Reps.one (show Kd.M Kd.string _ _ _ (rdOf ByteArray.empty t220 5) [.string (rdOf ByteArray.empty t220 5)] from rfl) (Reps.one (show Kd.M Kd.string _ _ _ (rdOf ByteArray.empty t220 7) [.string (rdOf ByteArray.empty t220 7)] from rfl) (Reps.none _ _))))))
              intro v228 w24 ho25 hb hg_ hnew_
              have HS0_ := (hb.cell (World.block_lt_of_cell? _ _ (hHeld.1))).trans (hHeld.1); have HS1_ := (hb.cell (World.block_lt_of_cell? _ _ (hHeld.2.1))).trans (hHeld.2.1); have HS2_ := (hb.cell (World.block_lt_of_cell? _ _ (hHeld.2.2.1))).trans (hHeld.2.2.1); have HS3_ := (hb.cell (World.block_lt_of_cell? _ _ (hHeld.2.2.2))).trans (hHeld.2.2.2); clear hg_ hnew_
              (first | rw [← Ny227.out] at ho25 | (simp only [Int.reduceToNat] at ho25; rw [← Ny227.out] at ho25))
              have n0_ := zA (Kd.R_elder' (zR HO222) (Kd.R_base ho25) hb); have n1_ := zA (Kd.R_lower (Kd.R_new' ho25 (Kd.R_lt (zR HO222))) (below_size (zW1 HB GE218))); have n2_ := zA (blk_below (g := gb218) (o := .cells #[.int .i64 0, .string (⟨#[]⟩ : ByteArray), .int .i64 0, .int .i64 0, .int .i64 0] 26 (0, 0)) (zB BK218) hb); have n3_ := zA (below_step (zW1 HB GE218) hb); clear HO222; clear BK218; clear HB; have HO222 := n0_; have HO229 := n1_; have BK218 := n2_; have HB := n3_; clear n0_ n1_ n2_ n3_; clear hb ho25
              obtain ⟨Ao26, co26, eo26⟩ := Kd.R_slice HO229.out
              (first | subst eo26 | (injection eo26 with f1_ f2_ f3_; have f4_ := f1_.symm; have f5_ := f3_.symm; clear f1_ f2_ f3_; subst f4_; subst f5_))
              refine hK.out _ _ ⟨HS0_, HS1_, HS2_, HS3_⟩ (fun hHeld => ?_)
              clear hK K
              refine norm_ (a' := ?_) ?_ ?_
              rotate_left
              ·show Act.put _ (some 30) _ = _
               simp only [Act.put, List.setIfInBounds_toArray, List.set_cons_zero, List.set_cons_succ, i64_w, i32_w]
               rfl
              refine one_ (i := 13) (N := some 31) #[true, true, true, true, true, true, true, true, true, true, true, true, true, true, false, false, false, false, false] rfl rfl (one_of HT_.out (by kernel_rfl)) (by decide) (fun K hK => ?_)
              refine goes_ Tryd.func19 (by kernel_rfl) rfl #[.slice Ao26 y227.length co26] (by rfl) rfl rfl (zM) ?_
              with_reducible refine (impl_parseInts.calls k _ _ y227 t230 true _ ?side1 ?side2 A9.out (TT_below HT.out (by repeat (first | (with_reducible first | exact HB.out | apply below_alloc | apply pw_below_drewN | apply below_drew1) | exact HB.out | exact Below.refl _ _)))).mono ?_
              (case side1 => repeat (first | exact (Kd.R_reads' HO229.out).2.2 | (with_reducible refine Kd.C_alloc ?_ _) | (with_reducible refine Kd.C_drewN ?_ _) | (with_reducible refine Kd.C_drew ?_)))
              (case side2 => exact (Kd.R_reads' HO229.out).2.1)
              rintro e w27 ⟨v232, rfl, ho0, hb⟩
              have HS0_ := (hb.cell (World.block_lt_of_cell? _ _ (hHeld.1))).trans (hHeld.1); have HS1_ := (hb.cell (World.block_lt_of_cell? _ _ (hHeld.2.1))).trans (hHeld.2.1); have HS2_ := (hb.cell (World.block_lt_of_cell? _ _ (hHeld.2.2.1))).trans (hHeld.2.2.1); have HS3_ := (hb.cell (World.block_lt_of_cell? _ _ (hHeld.2.2.2))).trans (hHeld.2.2.2)
              refine ⟨_, rfl, ?_⟩
              have n0_ := zA (Kd.R_below (zR HO222) hb); have n1_ := zA (Kd.R_below (zR HO229) hb); have n2_ := zA (Kd.R_lower ho0 (below_size (zW1 HB GE218))); have n3_ := zA (blk_below (g := gb218) (o := .cells #[.int .i64 0, .string (⟨#[]⟩ : ByteArray), .int .i64 0, .int .i64 0, .int .i64 0] 26 (0, 0)) (zB BK218) hb); have n4_ := zA (below_step (zW1 HB GE218) hb); clear HO222; clear HO229; clear BK218; clear HB; have HO222 := n0_; have HO229 := n1_; have HO233 := n2_; have BK218 := n3_; have HB := n4_; clear n0_ n1_ n2_ n3_ n4_; (try clear hb); (try clear hb2); (try clear hk); (try clear hi); (try clear ho0)
              refine hK.out _ _ ⟨HS0_, HS1_, HS2_, HS3_⟩ (fun hHeld => ?_)
              clear hK K
              refine norm_ (a' := ?_) ?_ ?_
              rotate_left
              ·show Act.put _ (some 31) _ = _
               simp only [Act.put, List.setIfInBounds_toArray, List.set_cons_zero, List.set_cons_succ, i64_w, i32_w]
               rfl
              refine pure_ (i := 14) (N := some 17) (v := ?_) (a' := ?_) #[true, true, true, true, true, true, true, true, true, true, true, true, true, true, true, false, false, false, false] rfl rfl (any_of HT_.out (by kernel_rfl)) (fun _ _ _ h => h) (Or.inl ⟨by rfl, ?_⟩) ?_ ?_
              rotate_left
              ·intro w'
               go_simp
               first
                | with_reducible rfl
                | (rw [if_neg (by simp only [ByteArray.size_append, zl12_0, zl12_1, ByteArray.size_extract] at *; omega)])
              rotate_left
              ·simp only [Act.put, List.setIfInBounds_toArray, List.set_cons_zero, List.set_cons_succ, i64_w, i32_w]
               rfl
              refine pure_ (i := 15) (N := some 32) (v := ?_) (a' := ?_) #[true, true, true, true, true, true, true, true, true, true, true, true, true, true, true, true, false, false, false] rfl rfl (any_of HT_.out (by kernel_rfl)) (fun _ _ _ h => h) (Or.inl ⟨by rfl, ?_⟩) ?_ ?_
              rotate_left
              ·intro w'
               go_simp
               first
                | with_reducible rfl
                | (rw [if_neg (by simp only [ByteArray.size_append, zl12_0, zl12_1, ByteArray.size_extract] at *; omega)])
              rotate_left
              ·simp only [Act.put, List.setIfInBounds_toArray, List.set_cons_zero, List.set_cons_succ, i64_w, i32_w]
               rfl
              refine pure_ (i := 16) (N := some 33) (v := ?_) (a' := ?_) #[true, true, true, true, true, true, true, true, true, true, true, true, true, true, true, true, true, false, false] rfl rfl (any_of HT_.out (by kernel_rfl)) (fun _ _ _ h => h) (Or.inl ⟨by rfl, ?_⟩) ?_ ?_
              rotate_left
              ·intro w'
               go_simp
               first
                | with_reducible rfl
                | (rw [if_neg (by simp only [ByteArray.size_append, zl12_0, zl12_1, ByteArray.size_extract] at *; omega)])
              rotate_left
              ·simp only [Act.put, List.setIfInBounds_toArray, List.set_cons_zero, List.set_cons_succ, i64_w, i32_w]
               rfl
              refine pure_ (i := 17) (N := some 5) (v := ?_) (a' := ?_) #[true, true, true, true, true, true, true, true, true, true, true, true, true, true, true, true, true, true, false] rfl rfl (any_of HT_.out (by kernel_rfl)) (fun _ _ _ h => h) (Or.inl ⟨by rfl, ?_⟩) ?_ ?_
              rotate_left
              ·intro w'
               go_simp
               first
                | with_reducible rfl
                | (rw [if_neg (by simp only [ByteArray.size_append, zl12_0, zl12_1, ByteArray.size_extract] at *; omega)])
              rotate_left
              ·simp only [Act.put, List.setIfInBounds_toArray, List.set_cons_zero, List.set_cons_succ, i64_w, i32_w]
               rfl
              refine pure_ (i := 18) (N := some 6) (v := ?_) (a' := ?_) #[true, true, true, true, true, true, true, true, true, true, true, true, true, true, true, true, true, true, true] rfl rfl (any_of HT_.out (by kernel_rfl)) (fun _ _ _ h => h) (Or.inl ⟨by rfl, ?_⟩) ?_ ?_
              rotate_left
              ·intro w'
               go_simp
               first
                | with_reducible rfl
                | (rw [if_neg (by simp only [ByteArray.size_append, zl12_0, zl12_1, ByteArray.size_extract] at *; omega)])
              rotate_left
              ·simp only [Act.put, List.setIfInBounds_toArray, List.set_cons_zero, List.set_cons_succ, i64_w, i32_w]
               rfl
              refine done_ (done_of HT_.out (by kernel_rfl)) ?_
              try go_wp2
              have n0_ := zA (Kd.R_drew HO222.out); have n1_ := zA (Kd.R_drew HO229.out); have n2_ := zA (Kd.R_drew HO233.out); have n3_ := zA (blk_drew BK218.out); have n4_ := zA (below_drew1 HB.out); clear HO222; clear HO229; clear HO233; clear BK218; clear HB; have HO222 := n0_; have HO229 := n1_; have HO233 := n2_; have BK218 := n3_; have HB := n4_; clear n0_ n1_ n2_ n3_ n4_
              obtain ⟨Ao29, co29, eo29⟩ := Kd.R_slice HO233.out
              (first | subst eo29 | (injection eo29 with f1_ f2_ f3_; have f4_ := f1_.symm; have f5_ := f3_.symm; clear f1_ f2_ f3_; subst f4_; subst f5_))
              have p234 : 0 ≤ (0 : Int) := (by omega); have q234 : 0 < (t230.length : Int) := of_decide_eq_true (by first | (with_reducible assumption) | assumption)
              obtain ⟨ad234, e234, hx234_0⟩ := Kd.at_int (Kd.R_reads' HO233.out).2.2 0 p234 q234
              cases e234
              have qi234 : (0 < t230.length) = True := eq_true (by omega)
              (try rw [show ((0 : Int)).toNat = 0 from rfl] at hx234_0)
              (try rw [Addr.add_zero'] at hx234_0)
              replace p234 := eq_true p234
              replace q234 := eq_true q234
              have p235 : 0 ≤ (1 : Int) := (by omega); have q235 : 1 < (t220.length : Int) := of_decide_eq_true (by first | (with_reducible assumption) | assumption)
              obtain ⟨ad235, e235, hx235_0⟩ := Kd.at_string (Kd.R_reads' HO222.out).2.2 1 p235 q235
              obtain rfl : ad223 = ad235 := (by injection e235)
              (try simp only [show (1 : Int).toNat = 1 from rfl, Nat.reduceMul, Nat.reduceEqDiff, Go.Addr.add, ↓reduceIte] at hx235_0)
              have qi235 : (1 < t220.length) = True := eq_true (by omega)
              (try rw [show ((1 : Int)).toNat = 1 from rfl] at hx235_0)
              replace p235 := eq_true p235
              replace q235 := eq_true q235
              have p236 : 0 ≤ (1 : Int) := (by omega); have q236 : 1 < (t230.length : Int) := of_decide_eq_true (by first | (with_reducible assumption) | assumption)
              obtain ⟨ad236, e236, hx236_0⟩ := Kd.at_int (Kd.R_reads' HO233.out).2.2 1 p236 q236
              obtain rfl : ad234 = ad236 := (by injection e236)
              (try simp only [show (1 : Int).toNat = 1 from rfl, Nat.reduceMul, Nat.reduceEqDiff, Go.Addr.add, ↓reduceIte] at hx236_0)
              have qi236 : (1 < t230.length) = True := eq_true (by omega)
              (try rw [show ((1 : Int)).toNat = 1 from rfl] at hx236_0)
              replace p236 := eq_true p236
              replace q236 := eq_true q236
              have p237 : 0 ≤ (2 : Int) := (by omega); have q237 : 2 < (t230.length : Int) := of_decide_eq_true (by first | (with_reducible assumption) | assumption)
              obtain ⟨ad237, e237, hx237_0⟩ := Kd.at_int (Kd.R_reads' HO233.out).2.2 2 p237 q237
              obtain rfl : ad234 = ad237 := (by injection e237)
              (try simp only [show (2 : Int).toNat = 2 from rfl, Nat.reduceMul, Nat.reduceEqDiff, Go.Addr.add, ↓reduceIte] at hx237_0)
              have qi237 : (2 < t230.length) = True := eq_true (by omega)
              (try rw [show ((2 : Int)).toNat = 2 from rfl] at hx237_0)
              replace p237 := eq_true p237
              replace q237 := eq_true q237
              have p238 : 0 ≤ (3 : Int) := (by omega); have q238 : 3 < (t230.length : Int) := of_decide_eq_true (by first | (with_reducible assumption) | assumption)
              obtain ⟨ad238, e238, hx238_0⟩ := Kd.at_int (Kd.R_reads' HO233.out).2.2 3 p238 q238
              obtain rfl : ad234 = ad238 := (by injection e238)
              (try simp only [show (3 : Int).toNat = 3 from rfl, Nat.reduceMul, Nat.reduceEqDiff, Go.Addr.add, ↓reduceIte] at hx238_0)
              have qi238 : (3 < t230.length) = True := eq_true (by omega)
              (try rw [show ((3 : Int)).toNat = 3 from rfl] at hx238_0)
              replace p238 := eq_true p238
              replace q238 := eq_true q238
              refine start_ (n := 18) (S := fun w' => w'.cell? ad234 = some (.int .i64 (rd t230 0)) ∧ w'.cell? ⟨ad223.block, ad223.off + 1, none⟩ = some (.string (rdOf ByteArray.empty t220 1)) ∧ w'.cell? ⟨ad234.block, ad234.off + 1, none⟩ = some (.int .i64 (rd t230 1)) ∧ w'.cell? ⟨ad234.block, ad234.off + 2, none⟩ = some (.int .i64 (rd t230 2)) ∧ w'.cell? ⟨ad234.block, ad234.off + 3, none⟩ = some (.int .i64 (rd t230 3))) (ds := []) #[false, false, false, false, false, false, false, false, false, false, false, false, false, false, false, false, false, false] (by kernel_rfl) rfl rfl ⟨hx234_0, hx235_0, hx236_0, hx237_0, hx238_0⟩ (fun hHeld => ?_); refine with_tabW impl_ParseShade.tab7 impl_ParseShade.bits7 (fun HT_ HW_ => ?_)
              generalize w27.drew = w28 at HO222 HO229 HO233 BK218 HB hx234_0 hx235_0 hx236_0 hx237_0 hx238_0 hHeld ⊢
              refine pure_ (i := 0) (N := some 37) (v := ?_) (a' := ?_) #[true, false, false, false, false, false, false, false, false, false, false, false, false, false, false, false, false, false] rfl rfl (any_of HT_.out (by kernel_rfl)) (fun _ _ _ h => h) (Or.inl ⟨by rfl, ?_⟩) ?_ ?_
              rotate_left
              ·intro w'
               go_simp
               first
                | with_reducible rfl
                | (rw [if_neg (by simp only [ByteArray.size_append, zl12_0, zl12_1, ByteArray.size_extract] at *; omega)])
              rotate_left
              ·simp only [Act.put, List.setIfInBounds_toArray, List.set_cons_zero, List.set_cons_succ, i64_w, i32_w]
               rfl
              refine pure_ (i := 1) (N := some 38) (v := ?_) (a' := ?_) #[true, true, false, false, false, false, false, false, false, false, false, false, false, false, false, false, false, false] rfl rfl (any_of HT_.out (by kernel_rfl)) (fun _ _ _ h => h) (Or.inl ⟨by rfl, ?_⟩) ?_ ?_
              rotate_left
              ·intro w'
               go_simp
               first
                | with_reducible rfl
                | (rw [if_neg (by simp only [ByteArray.size_append, zl12_0, zl12_1, ByteArray.size_extract] at *; omega)])
              rotate_left
              ·simp only [Act.put, List.setIfInBounds_toArray, List.set_cons_zero, List.set_cons_succ, i64_w, i32_w]
               rfl
              refine pure_ (i := 3) (N := some 40) (v := ?_) (a' := ?_) #[true, true, false, true, false, false, false, false, false, false, false, false, false, false, false, false, false, false] rfl rfl (any_of HT_.out (by kernel_rfl)) (fun _ _ _ h => h) (Or.inl ⟨by rfl, ?_⟩) ?_ ?_
              rotate_left
              ·intro w'
               go_simp
               first
                | with_reducible rfl
                | (rw [if_neg (by simp only [ByteArray.size_append, zl12_0, zl12_1, ByteArray.size_extract] at *; omega)])
              rotate_left
              ·simp only [Act.put, List.setIfInBounds_toArray, List.set_cons_zero, List.set_cons_succ, i64_w, i32_w]
               rfl
              refine pure_ (i := 4) (N := some 41) (v := ?_) (a' := ?_) #[true, true, false, true, true, false, false, false, false, false, false, false, false, false, false, false, false, false] rfl rfl (any_of HT_.out (by kernel_rfl)) (fun _ _ _ h => h) (Or.inl ⟨by rfl, ?_⟩) ?_ ?_
              rotate_left
              ·intro w'
               go_simp
               first
                | with_reducible rfl
                | (rw [if_neg (by simp only [ByteArray.size_append, zl12_0, zl12_1, ByteArray.size_extract] at *; omega)])
              rotate_left
              ·simp only [Act.put, List.setIfInBounds_toArray, List.set_cons_zero, List.set_cons_succ, i64_w, i32_w]
               rfl
              refine pure_ (i := 6) (N := some 43) (v := ?_) (a' := ?_) #[true, true, false, true, true, false, true, false, false, false, false, false, false, false, false, false, false, false] rfl rfl (any_of HT_.out (by kernel_rfl)) (fun _ _ _ h => h) (Or.inl ⟨by rfl, ?_⟩) ?_ ?_
              rotate_left
              ·intro w'
               go_simp
               first
                | with_reducible rfl
                | (rw [if_neg (by simp only [ByteArray.size_append, zl12_0, zl12_1, ByteArray.size_extract] at *; omega)])
              rotate_left
              ·simp only [Act.put, List.setIfInBounds_toArray, List.set_cons_zero, List.set_cons_succ, i64_w, i32_w]
               rfl
              refine pure_ (i := 7) (N := some 44) (v := ?_) (a' := ?_) #[true, true, false, true, true, false, true, true, false, false, false, false, false, false, false, false, false, false] rfl rfl (any_of HT_.out (by kernel_rfl)) (fun _ _ _ h => h) (Or.inl ⟨by rfl, ?_⟩) ?_ ?_
              rotate_left
              ·intro w'
               go_simp
               first
                | with_reducible rfl
                | (rw [if_neg (by simp only [ByteArray.size_append, zl12_0, zl12_1, ByteArray.size_extract] at *; omega)])
              rotate_left
              ·simp only [Act.put, List.setIfInBounds_toArray, List.set_cons_zero, List.set_cons_succ, i64_w, i32_w]
               rfl
              refine pure_ (i := 9) (N := some 46) (v := ?_) (a' := ?_) #[true, true, false, true, true, false, true, true, false, true, false, false, false, false, false, false, false, false] rfl rfl (any_of HT_.out (by kernel_rfl)) (fun _ _ _ h => h) (Or.inl ⟨by rfl, ?_⟩) ?_ ?_
              rotate_left
              ·intro w'
               go_simp
               first
                | with_reducible rfl
                | (rw [if_neg (by simp only [ByteArray.size_append, zl12_0, zl12_1, ByteArray.size_extract] at *; omega)])
              rotate_left
              ·simp only [Act.put, List.setIfInBounds_toArray, List.set_cons_zero, List.set_cons_succ, i64_w, i32_w]
               rfl
              refine pure_ (i := 10) (N := some 47) (v := ?_) (a' := ?_) #[true, true, false, true, true, false, true, true, false, true, true, false, false, false, false, false, false, false] rfl rfl (any_of HT_.out (by kernel_rfl)) (fun _ _ _ h => h) (Or.inl ⟨by rfl, ?_⟩) ?_ ?_
              rotate_left
              ·intro w'
               go_simp
               first
                | with_reducible rfl
                | (rw [if_neg (by simp only [ByteArray.size_append, zl12_0, zl12_1, ByteArray.size_extract] at *; omega)])
              rotate_left
              ·simp only [Act.put, List.setIfInBounds_toArray, List.set_cons_zero, List.set_cons_succ, i64_w, i32_w]
               rfl
              refine pure_ (i := 12) (N := some 49) (v := ?_) (a' := ?_) #[true, true, false, true, true, false, true, true, false, true, true, false, true, false, false, false, false, false] rfl rfl (any_of HT_.out (by kernel_rfl)) (fun _ _ _ h => h) (Or.inl ⟨by rfl, ?_⟩) ?_ ?_
              rotate_left
              ·intro w'
               go_simp
               first
                | with_reducible rfl
                | (rw [if_neg (by simp only [ByteArray.size_append, zl12_0, zl12_1, ByteArray.size_extract] at *; omega)])
              rotate_left
              ·simp only [Act.put, List.setIfInBounds_toArray, List.set_cons_zero, List.set_cons_succ, i64_w, i32_w]
               rfl
              refine pure_ (i := 13) (N := some 50) (v := ?_) (a' := ?_) #[true, true, false, true, true, false, true, true, false, true, true, false, true, true, false, false, false, false] rfl rfl (any_of HT_.out (by kernel_rfl)) (fun _ _ _ h => h) (Or.inl ⟨by rfl, ?_⟩) ?_ ?_
              rotate_left
              ·intro w'
               go_simp
               first
                | with_reducible rfl
                | (rw [if_neg (by simp only [ByteArray.size_append, zl12_0, zl12_1, ByteArray.size_extract] at *; omega)])
              rotate_left
              ·simp only [Act.put, List.setIfInBounds_toArray, List.set_cons_zero, List.set_cons_succ, i64_w, i32_w]
               rfl
              refine take_ (i := 2) (N := some 39) (v := ?_) (a' := ?_) #[true, true, true, true, true, false, true, true, false, true, true, false, true, true, false, false, false, false] rfl rfl (take_ofW HT_.out HW_.out (by kernel_rfl)) (fun _ _ _ h => h) (Or.inl ⟨by rfl, ?_⟩) hHeld ?_ ?_
              rotate_left
              ·rintro w' ⟨s0, s1, s2, s3, s4⟩
               go_simp
               with_reducible rfl
              rotate_left
              ·simp only [Act.put, List.setIfInBounds_toArray, List.set_cons_zero, List.set_cons_succ, i64_w, i32_w]
               rfl
              refine take_ (i := 5) (N := some 42) (v := ?_) (a' := ?_) #[true, true, true, true, true, true, true, true, false, true, true, false, true, true, false, false, false, false] rfl rfl (take_ofW HT_.out HW_.out (by kernel_rfl)) (fun _ _ _ h => h) (Or.inl ⟨by rfl, ?_⟩) hHeld ?_ ?_
              rotate_left
              ·rintro w' ⟨s0, s1, s2, s3, s4⟩
               go_simp
               with_reducible rfl
              rotate_left
              ·simp only [Act.put, List.setIfInBounds_toArray, List.set_cons_zero, List.set_cons_succ, i64_w, i32_w]
               rfl
              refine take_ (i := 8) (N := some 45) (v := ?_) (a' := ?_) #[true, true, true, true, true, true, true, true, true, true, true, false, true, true, false, false, false, false] rfl rfl (take_ofW HT_.out HW_.out (by kernel_rfl)) (fun _ _ _ h => h) (Or.inl ⟨by rfl, ?_⟩) hHeld ?_ ?_
              rotate_left
              ·rintro w' ⟨s0, s1, s2, s3, s4⟩
               go_simp
               with_reducible rfl
              rotate_left
              ·simp only [Act.put, List.setIfInBounds_toArray, List.set_cons_zero, List.set_cons_succ, i64_w, i32_w]
               rfl
              refine take_ (i := 11) (N := some 48) (v := ?_) (a' := ?_) #[true, true, true, true, true, true, true, true, true, true, true, true, true, true, false, false, false, false] rfl rfl (take_ofW HT_.out HW_.out (by kernel_rfl)) (fun _ _ _ h => h) (Or.inl ⟨by rfl, ?_⟩) hHeld ?_ ?_
              rotate_left
              ·rintro w' ⟨s0, s1, s2, s3, s4⟩
               go_simp
               with_reducible rfl
              rotate_left
              ·simp only [Act.put, List.setIfInBounds_toArray, List.set_cons_zero, List.set_cons_succ, i64_w, i32_w]
               rfl
              refine take_ (i := 14) (N := some 51) (v := ?_) (a' := ?_) #[true, true, true, true, true, true, true, true, true, true, true, true, true, true, true, false, false, false] rfl rfl (take_ofW HT_.out HW_.out (by kernel_rfl)) (fun _ _ _ h => h) (Or.inl ⟨by rfl, ?_⟩) hHeld ?_ ?_
              rotate_left
              ·rintro w' ⟨s0, s1, s2, s3, s4⟩
               go_simp
               with_reducible rfl
              rotate_left
              ·simp only [Act.put, List.setIfInBounds_toArray, List.set_cons_zero, List.set_cons_succ, i64_w, i32_w]
               rfl
              refine pure_ (i := 15) (N := some 52) (v := ?_) (a' := ?_) #[true, true, true, true, true, true, true, true, true, true, true, true, true, true, true, true, false, false] rfl rfl (any_of HT_.out (by kernel_rfl)) (fun _ _ _ h => h) (Or.inl ⟨by rfl, ?_⟩) ?_ ?_
              rotate_left
              ·intro w'
               go_simp
               first
                | with_reducible rfl
                | (rw [if_neg (by simp only [ByteArray.size_append, zl12_0, zl12_1, ByteArray.size_extract] at *; omega)])
              rotate_left
              ·simp only [Act.put, List.setIfInBounds_toArray, List.set_cons_zero, List.set_cons_succ, i64_w, i32_w]
               rfl
              refine one_ (i := 16) (N := some 7) #[true, true, true, true, true, true, true, true, true, true, true, true, true, true, true, true, true, false] rfl rfl (one_of HT_.out (by kernel_rfl)) (by decide) (fun K hK => ?_)
              refine box_step ?hg (N := 7) ?hd (cs := #[.int .i64 0, .string (⟨#[]⟩ : ByteArray), .int .i64 0, .int .i64 0, .int .i64 0]) (t := 26) ?hr ?_; (case hd => rfl); (case hg => rfl); (case hr => first | (go_simp; done) | (go_simp; rfl))
              intro gb239 hg w30 hbox hb
              have HS0_ := (hb.cell (World.block_lt_of_cell? _ _ (hHeld.1))).trans (hHeld.1); have HS1_ := (hb.cell (World.block_lt_of_cell? _ _ (hHeld.2.1))).trans (hHeld.2.1); have HS2_ := (hb.cell (World.block_lt_of_cell? _ _ (hHeld.2.2.1))).trans (hHeld.2.2.1); have HS3_ := (hb.cell (World.block_lt_of_cell? _ _ (hHeld.2.2.2.1))).trans (hHeld.2.2.2.1); have HS4_ := (hb.cell (World.block_lt_of_cell? _ _ (hHeld.2.2.2.2))).trans (hHeld.2.2.2.2); have n0_ := zA (Kd.R_below (zR HO222) hb); have n1_ := zA (Kd.R_below (zR HO229) hb); have n2_ := zA (Kd.R_below (zR HO233) hb); have n3_ := zA (blk_below (g := gb218) (o := .cells #[.int .i64 0, .string (⟨#[]⟩ : ByteArray), .int .i64 0, .int .i64 0, .int .i64 0] 26 (0, 0)) (zB BK218) hb); have n4_ := zA (below_step (zW1 HB GE218) hb); have n5_ := zA (hbox); have n6_ := zA ((by rw [hg]; exact (below_size (zW1 HB GE218)) : w.heap.size ≤ gb239)); have n7_ := zA ((by rw [hg]; exact (below_size (zW1 HB GE218)) : w.heap.size ≤ gb239)); have n8_ := zA ((by rw [hg]; exact Nat.ne_of_lt (blk_lt (g := gb218) (o := .cells #[.int .i64 0, .string (⟨#[]⟩ : ByteArray), .int .i64 0, .int .i64 0, .int .i64 0] 26 (0, 0)) (zB BK218)) : gb218 ≠ gb239)); have n9_ := zA ((by rw [hg]; exact Nat.ne_of_gt (blk_lt (g := gb218) (o := .cells #[.int .i64 0, .string (⟨#[]⟩ : ByteArray), .int .i64 0, .int .i64 0, .int .i64 0] 26 (0, 0)) (zB BK218)) : gb239 ≠ gb218)); clear HO222; clear HO229; clear HO233; clear BK218; clear HB; have HO222 := n0_; have HO229 := n1_; have HO233 := n2_; have BK218 := n3_; have HB := n4_; have BK239 := n5_; have GW239 := n6_; have GE239 := n7_; have NB218_239 := n8_; have NB239_218 := n9_; clear n0_ n1_ n2_ n3_ n4_ n5_ n6_ n7_ n8_ n9_; clear hb hbox hg
              refine hK.out _ _ ⟨HS0_, HS1_, HS2_, HS3_, HS4_⟩ (fun hHeld => ?_)
              clear hK K
              refine norm_ (a' := ?_) ?_ ?_
              rotate_left
              ·show Act.put _ (some 7) _ = _
               simp only [Act.put, List.setIfInBounds_toArray, List.set_cons_zero, List.set_cons_succ, i64_w, i32_w]
               rfl
              refine one_ (i := 17) (N := none) #[true, true, true, true, true, true, true, true, true, true, true, true, true, true, true, true, true, true] rfl rfl (one_of HT_.out (by kernel_rfl)) (by decide) (fun K hK => ?_)
              have hs31 : w30.cell? ⟨gb239, 0, none⟩ = some (.int .i64 0) := (blk_cell BK239.out 0).trans rfl; have hfs31 := blk_frozen BK239.out 0; have hns31_0 := NB218_239.out; have hms31_0 := NB239_218.out; have hs32 : w30.cell? ⟨gb239, 1, none⟩ = some (.string (⟨#[]⟩ : ByteArray)) := (blk_cell BK239.out 1).trans rfl; have hfs32 := blk_frozen BK239.out 1; have hns32_0 := NB218_239.out; have hms32_0 := NB239_218.out; have hs33 : w30.cell? ⟨gb239, 2, none⟩ = some (.int .i64 0) := (blk_cell BK239.out 2).trans rfl; have hfs33 := blk_frozen BK239.out 2; have hns33_0 := NB218_239.out; have hms33_0 := NB239_218.out; have hs34 : w30.cell? ⟨gb239, 3, none⟩ = some (.int .i64 0) := (blk_cell BK239.out 3).trans rfl; have hfs34 := blk_frozen BK239.out 3; have hns34_0 := NB218_239.out; have hms34_0 := NB239_218.out; have hs35 : w30.cell? ⟨gb239, 4, none⟩ = some (.int .i64 0) := (blk_cell BK239.out 4).trans rfl; have hfs35 := blk_frozen BK239.out 4; have hns35_0 := NB218_239.out; have hms35_0 := NB239_218.out
              refine skip_ (w1 := ?_) (by rfl) rfl ?_ ?_
              rotate_left
              ·go_simp
               rfl
              have nH_ad223 : ad223.block ≠ gb239 := Kd.own_blk (Kd.R_ne HO222.out BK239.out (by decide)); have nH_ad234 : ad234.block ≠ gb239 := Kd.own_blk (Kd.R_ne HO233.out BK239.out (by decide))
              have eH0_ := fun (W_ : World) (j_ : Nat) (u_ : Value) => cell_far (W := W_) (p := ⟨gb239, j_, none⟩) (a := ad234) nH_ad234 u_
              have eH1_ := fun (W_ : World) (j_ : Nat) (u_ : Value) => cell_far (W := W_) (p := ⟨gb239, j_, none⟩) (a := ⟨ad223.block, ad223.off + 1, none⟩) nH_ad223 u_
              have eH2_ := fun (W_ : World) (j_ : Nat) (u_ : Value) => cell_far (W := W_) (p := ⟨gb239, j_, none⟩) (a := ⟨ad234.block, ad234.off + 1, none⟩) nH_ad234 u_
              have eH3_ := fun (W_ : World) (j_ : Nat) (u_ : Value) => cell_far (W := W_) (p := ⟨gb239, j_, none⟩) (a := ⟨ad234.block, ad234.off + 2, none⟩) nH_ad234 u_
              have eH4_ := fun (W_ : World) (j_ : Nat) (u_ : Value) => cell_far (W := W_) (p := ⟨gb239, j_, none⟩) (a := ⟨ad234.block, ad234.off + 3, none⟩) nH_ad234 u_
              refine hK.out _ _ ⟨(eH0_ _ _ _).trans ((eH0_ _ _ _).trans ((eH0_ _ _ _).trans ((eH0_ _ _ _).trans ((eH0_ _ _ _).trans (hHeld.1))))), (eH1_ _ _ _).trans ((eH1_ _ _ _).trans ((eH1_ _ _ _).trans ((eH1_ _ _ _).trans ((eH1_ _ _ _).trans (hHeld.2.1))))), (eH2_ _ _ _).trans ((eH2_ _ _ _).trans ((eH2_ _ _ _).trans ((eH2_ _ _ _).trans ((eH2_ _ _ _).trans (hHeld.2.2.1))))), (eH3_ _ _ _).trans ((eH3_ _ _ _).trans ((eH3_ _ _ _).trans ((eH3_ _ _ _).trans ((eH3_ _ _ _).trans (hHeld.2.2.2.1))))), (eH4_ _ _ _).trans ((eH4_ _ _ _).trans ((eH4_ _ _ _).trans ((eH4_ _ _ _).trans ((eH4_ _ _ _).trans (hHeld.2.2.2.2)))))⟩ (fun hHeld => ?_)
              clear nH_ad223 nH_ad234 eH0_ eH1_ eH2_ eH3_ eH4_ hK K
              refine done_ (done_of HT_.out (by kernel_rfl)) ?_
              have hnb36 := NB239_218.out; have hnc36 := NB218_239.out; have hcz37_0 : w30.cell? ⟨gb239, 0, none⟩ = some (.int .i64 0) := (blk_cell BK239.out 0).trans rfl; have hcz37_1 : w30.cell? ⟨gb239, 1, none⟩ = some (.string (⟨#[]⟩ : ByteArray)) := (blk_cell BK239.out 1).trans rfl; have hcz37_2 : w30.cell? ⟨gb239, 2, none⟩ = some (.int .i64 0) := (blk_cell BK239.out 2).trans rfl; have hcz37_3 : w30.cell? ⟨gb239, 3, none⟩ = some (.int .i64 0) := (blk_cell BK239.out 3).trans rfl; have hcz37_4 : w30.cell? ⟨gb239, 4, none⟩ = some (.int .i64 0) := (blk_cell BK239.out 4).trans rfl; have hfz37_0 := blk_frozen BK239.out 0; have hfz37_1 := blk_frozen BK239.out 1; have hfz37_2 := blk_frozen BK239.out 2; have hfz37_3 := blk_frozen BK239.out 3; have hfz37_4 := blk_frozen BK239.out 4
              try go_wp2_with (first | ((with_reducible refine gate_callee (f := 20) rfl ?_); refine goesL_ (some 55) rfl rfl Tryd.func20 (by kernel_rfl) rfl #[.agg #[.int .i64 (rd t230 0), .string (rdOf ByteArray.empty t220 1), .int .i64 (rd t230 1), .int .i64 (rd t230 2), .int .i64 (rd t230 3)]] rfl (zM) ?_; (with_reducible refine (impl_ShadeText.calls (rd t230 0) (rdOf ByteArray.empty t220 1) (rd t230 1) (rd t230 2) (rd t230 3) t240 true _ A16.out (TT_below HT.out (by repeat (first | (with_reducible first | exact HB.out | apply below_alloc | apply pw_below_drewN | apply below_drew1 | refine below_set ?_ GE218.out | refine below_set ?_ GE239.out) | exact HB.out | exact Below.refl _ _)))).mono ?_); rintro e w38 ⟨rfl, hb⟩; refine ⟨_, rfl, ?_⟩; have n0_ := zA (Kd.R_below (by (with_reducible repeat (first | apply Kd.R_alloc | apply Kd.R_drewN | apply Kd.R_drew)); exact (Kd.R_mono (Kd.R_far (p := ⟨gb239, 4, none⟩) (Kd.R_far (p := ⟨gb239, 3, none⟩) (Kd.R_far (p := ⟨gb239, 2, none⟩) (Kd.R_far (p := ⟨gb239, 1, none⟩) (Kd.R_far (p := ⟨gb239, 0, none⟩) (Kd.R_types HO222.out BK239.out (by decide)) (fun _ hk => hk.2) (.int .i64 (rd t230 0))) (fun _ hk => hk.2) (.string (rdOf ByteArray.empty t220 1))) (fun _ hk => hk.2) (.int .i64 (rd t230 1))) (fun _ hk => hk.2) (.int .i64 (rd t230 2))) (fun _ hk => hk.2) (.int .i64 (rd t230 3))) (fun _ h_ => h_.1))) hb); have n1_ := zA (Kd.R_below (by (with_reducible repeat (first | apply Kd.R_alloc | apply Kd.R_drewN | apply Kd.R_drew)); exact (Kd.R_mono (Kd.R_far (p := ⟨gb239, 4, none⟩) (Kd.R_far (p := ⟨gb239, 3, none⟩) (Kd.R_far (p := ⟨gb239, 2, none⟩) (Kd.R_far (p := ⟨gb239, 1, none⟩) (Kd.R_far (p := ⟨gb239, 0, none⟩) (Kd.R_types HO229.out BK239.out (by decide)) (fun _ hk => hk.2) (.int .i64 (rd t230 0))) (fun _ hk => hk.2) (.string (rdOf ByteArray.empty t220 1))) (fun _ hk => hk.2) (.int .i64 (rd t230 1))) (fun _ hk => hk.2) (.int .i64 (rd t230 2))) (fun _ hk => hk.2) (.int .i64 (rd t230 3))) (fun _ h_ => h_.1))) hb); have n2_ := zA (Kd.R_below (by (with_reducible repeat (first | apply Kd.R_alloc | apply Kd.R_drewN | apply Kd.R_drew)); exact (Kd.R_mono (Kd.R_far (p := ⟨gb239, 4, none⟩) (Kd.R_far (p := ⟨gb239, 3, none⟩) (Kd.R_far (p := ⟨gb239, 2, none⟩) (Kd.R_far (p := ⟨gb239, 1, none⟩) (Kd.R_far (p := ⟨gb239, 0, none⟩) (Kd.R_types HO233.out BK239.out (by decide)) (fun _ hk => hk.2) (.int .i64 (rd t230 0))) (fun _ hk => hk.2) (.string (rdOf ByteArray.empty t220 1))) (fun _ hk => hk.2) (.int .i64 (rd t230 1))) (fun _ hk => hk.2) (.int .i64 (rd t230 2))) (fun _ hk => hk.2) (.int .i64 (rd t230 3))) (fun _ h_ => h_.1))) hb); have n3_ := zA (blk_below (g := gb218) (o := .cells #[.int .i64 0, .string (⟨#[]⟩ : ByteArray), .int .i64 0, .int .i64 0, .int .i64 0] 26 (0, 0)) (zF BK218 NB218_239) hb); have n4_ := zA (blk_below (g := gb239) (o := .cells #[.int .i64 (rd t230 0), .string (rdOf ByteArray.empty t220 1), .int .i64 (rd t230 1), .int .i64 (rd t230 2), .int .i64 (rd t230 3)] 26 (0, 0)) (by (with_reducible repeat (first | refine blk_drewN ?_ _ | refine blk_drew ?_ | refine blk_alloc ?_ _)); refine blk_put (cs := #[.int .i64 (rd t230 0), .string (rdOf ByteArray.empty t220 1), .int .i64 (rd t230 1), .int .i64 (rd t230 2), .int .i64 0]) ?_ 4 _ rfl; (with_reducible repeat (first | refine blk_drewN ?_ _ | refine blk_drew ?_ | refine blk_alloc ?_ _)); refine blk_put (cs := #[.int .i64 (rd t230 0), .string (rdOf ByteArray.empty t220 1), .int .i64 (rd t230 1), .int .i64 0, .int .i64 0]) ?_ 3 _ rfl; (with_reducible repeat (first | refine blk_drewN ?_ _ | refine blk_drew ?_ | refine blk_alloc ?_ _)); refine blk_put (cs := #[.int .i64 (rd t230 0), .string (rdOf ByteArray.empty t220 1), .int .i64 0, .int .i64 0, .int .i64 0]) ?_ 2 _ rfl; (with_reducible repeat (first | refine blk_drewN ?_ _ | refine blk_drew ?_ | refine blk_alloc ?_ _)); refine blk_put (cs := #[.int .i64 (rd t230 0), .string (⟨#[]⟩ : ByteArray), .int .i64 0, .int .i64 0, .int .i64 0]) ?_ 1 _ rfl; (with_reducible repeat (first | refine blk_drewN ?_ _ | refine blk_drew ?_ | refine blk_alloc ?_ _)); refine blk_put (cs := #[.int .i64 0, .string (⟨#[]⟩ : ByteArray), .int .i64 0, .int .i64 0, .int .i64 0]) ?_ 0 _ rfl; (with_reducible repeat (first | refine blk_drewN ?_ _ | refine blk_drew ?_ | refine blk_alloc ?_ _)); exact BK239.out) hb); have n5_ := zA (below_step (zW2 HB GE218 GE239) hb); clear HO222; clear HO229; clear HO233; clear BK218; clear BK239; clear HB; have HO222 := n0_; have HO229 := n1_; have HO233 := n2_; have BK218 := n3_; have BK239 := n4_; have HB := n5_; clear n0_ n1_ n2_ n3_ n4_ n5_; (try clear hb); (try clear hb2); (try clear hk); (try clear hi); have hcz39_0 : w38.cell? ⟨gb239, 0, none⟩ = some (.int .i64 (rd t230 0)) := (blk_cell BK239.out 0).trans rfl; have hcz39_1 : w38.cell? ⟨gb239, 1, none⟩ = some (.string (rdOf ByteArray.empty t220 1)) := (blk_cell BK239.out 1).trans rfl; have hcz39_2 : w38.cell? ⟨gb239, 2, none⟩ = some (.int .i64 (rd t230 1)) := (blk_cell BK239.out 2).trans rfl; have hcz39_3 : w38.cell? ⟨gb239, 3, none⟩ = some (.int .i64 (rd t230 2)) := (blk_cell BK239.out 3).trans rfl; have hcz39_4 : w38.cell? ⟨gb239, 4, none⟩ = some (.int .i64 (rd t230 3)) := (blk_cell BK239.out 4).trans rfl; have hfz39_0 := blk_frozen BK239.out 0; have hfz39_1 := blk_frozen BK239.out 1; have hfz39_2 := blk_frozen BK239.out 2; have hfz39_3 := blk_frozen BK239.out 3; have hfz39_4 := blk_frozen BK239.out 4; have hcz40_0 : w38.cell? ⟨gb218, 0, none⟩ = some (.int .i64 0) := (blk_cell BK218.out 0).trans rfl; have hcz40_1 : w38.cell? ⟨gb218, 1, none⟩ = some (.string (⟨#[]⟩ : ByteArray)) := (blk_cell BK218.out 1).trans rfl; have hcz40_2 : w38.cell? ⟨gb218, 2, none⟩ = some (.int .i64 0) := (blk_cell BK218.out 2).trans rfl; have hcz40_3 : w38.cell? ⟨gb218, 3, none⟩ = some (.int .i64 0) := (blk_cell BK218.out 3).trans rfl; have hcz40_4 : w38.cell? ⟨gb218, 4, none⟩ = some (.int .i64 0) := (blk_cell BK218.out 4).trans rfl; have hfz40_0 := blk_frozen BK218.out 0; have hfz40_1 := blk_frozen BK218.out 1; have hfz40_2 := blk_frozen BK218.out 2; have hfz40_3 := blk_frozen BK218.out 3; have hfz40_4 := blk_frozen BK218.out 4))
              refine bodyPost_ret (results_ct rfl _ _ gb218 26 #[.int .i64 (rd t230 0), .string (rdOf ByteArray.empty t220 1), .int .i64 (rd t230 1), .int .i64 (rd t230 2), .int .i64 (rd t230 3)] (0, 0) _ rfl (by (with_reducible repeat (first | refine blk_drewN ?_ _ | refine blk_drew ?_ | refine blk_alloc ?_ _)); refine blk_put (cs := #[.int .i64 (rd t230 0), .string (rdOf ByteArray.empty t220 1), .int .i64 (rd t230 1), .int .i64 (rd t230 2), .int .i64 0]) ?_ 4 _ rfl; (with_reducible repeat (first | refine blk_drewN ?_ _ | refine blk_drew ?_ | refine blk_alloc ?_ _)); refine blk_put (cs := #[.int .i64 (rd t230 0), .string (rdOf ByteArray.empty t220 1), .int .i64 (rd t230 1), .int .i64 0, .int .i64 0]) ?_ 3 _ rfl; (with_reducible repeat (first | refine blk_drewN ?_ _ | refine blk_drew ?_ | refine blk_alloc ?_ _)); refine blk_put (cs := #[.int .i64 (rd t230 0), .string (rdOf ByteArray.empty t220 1), .int .i64 0, .int .i64 0, .int .i64 0]) ?_ 2 _ rfl; (with_reducible repeat (first | refine blk_drewN ?_ _ | refine blk_drew ?_ | refine blk_alloc ?_ _)); refine blk_put (cs := #[.int .i64 (rd t230 0), .string (⟨#[]⟩ : ByteArray), .int .i64 0, .int .i64 0, .int .i64 0]) ?_ 1 _ rfl; (with_reducible repeat (first | refine blk_drewN ?_ _ | refine blk_drew ?_ | refine blk_alloc ?_ _)); refine blk_put (cs := #[.int .i64 0, .string (⟨#[]⟩ : ByteArray), .int .i64 0, .int .i64 0, .int .i64 0]) ?_ 0 _ rfl; (with_reducible repeat (first | refine blk_drewN ?_ _ | refine blk_drew ?_ | refine blk_alloc ?_ _)); exact BK218.out) Tryd.underlying26 rfl (by kernel_rfl)) rfl ?_
              exact ⟨by first | rfl | (simp [errW_none, errW_some] <;> rfl) | (simp [*, errW_none, errW_some] <;> rfl), by repeat (first | (with_reducible first | exact HB.out | apply below_alloc | apply pw_below_drewN | apply below_drew1 | refine below_set ?_ GE218.out | refine below_set ?_ GE239.out) | exact HB.out)⟩
             ·rw [if_neg c18] at H
              have c18b0 : (t240.toList == a0.toList) = false := beq_eq_false_iff_ne.mpr c18; have c18b1 : (t240.toList != a0.toList) = true := bne_iff_ne.mpr c18
              simp only [Option.some.injEq, Prod.mk.injEq] at H
              obtain ⟨rfl, rfl, rfl, rfl, rfl, rfl⟩ := H
              go_enter Tryd.func8, Tryd.ntmps8
              try go_wp2_with (first | ((with_reducible refine gate_dst (N := 2) rfl ?_); refine box_event ?hg (N := 2) ?hd (cs := #[.int .i64 0, .string (⟨#[]⟩ : ByteArray), .int .i64 0, .int .i64 0, .int .i64 0]) (t := 26) ?hr ?_; (case hd => rfl); (case hg => rfl); (case hr => first | (go_simp; done) | (go_simp; rfl)); intro gb218 hg w41 hbox hb; have n0_ := zA (below_step (zW HB) hb); have n1_ := zA (hbox); have n2_ := zA ((by rw [hg]; exact (below_size (zW HB)) : w.heap.size ≤ gb218)); have n3_ := zA ((by rw [hg]; exact (below_size (zW HB)) : w.heap.size ≤ gb218)); clear HB; have HB := n0_; have BK218 := n1_; have GW218 := n2_; have GE218 := n3_; clear n0_ n1_ n2_ n3_; clear hb hbox hg) | ((with_reducible refine gate_callee (f := 18) rfl ?_); refine goesL_ (some 11) rfl rfl Tryd.func18 (by kernel_rfl) rfl #[.string a0, .string (⟨#[44]⟩ : ByteArray), .string (⟨#[]⟩ : ByteArray)] rfl (zM) ?_; (with_reducible refine (strings_ReplaceAll.calls a0 (⟨#[44]⟩ : ByteArray) (⟨#[]⟩ : ByteArray) t219 _ A2.out (TT_below HT.out (by repeat (first | (with_reducible first | exact HB.out | apply below_alloc | apply pw_below_drewN | apply below_drew1 | refine below_set ?_ GE218.out) | exact HB.out | exact Below.refl _ _)))).mono ?_); rintro e w42 ⟨rfl, hb⟩; refine ⟨_, rfl, ?_⟩; have n0_ := zA (blk_below (g := gb218) (o := .cells #[.int .i64 0, .string (⟨#[]⟩ : ByteArray), .int .i64 0, .int .i64 0, .int .i64 0] 26 (0, 0)) (zB BK218) hb); have n1_ := zA (below_step (zW1 HB GE218) hb); clear BK218; clear HB; have BK218 := n0_; have HB := n1_; clear n0_ n1_; (try clear hb); (try clear hb2); (try clear hk); (try clear hi)) | ((with_reducible refine gate_callee (f := 17) rfl ?_); refine goesL_ (some 12) rfl rfl Tryd.func17 (by kernel_rfl) rfl #[.string t219, .string (⟨#[32]⟩ : ByteArray)] rfl (zM) ?_; (with_reducible refine (strings_Split.calls k t219 (⟨#[32]⟩ : ByteArray) t220 _ A3.out).mono ?_); rintro e w43 ⟨v221, rfl, ho0, hb⟩; refine ⟨_, rfl, ?_⟩; have n0_ := zA (Kd.R_lower ho0 (below_size (zW1 HB GE218))); have n1_ := zA (blk_below (g := gb218) (o := .cells #[.int .i64 0, .string (⟨#[]⟩ : ByteArray), .int .i64 0, .int .i64 0, .int .i64 0] 26 (0, 0)) (zB BK218) hb); have n2_ := zA (below_step (zW1 HB GE218) hb); clear BK218; clear HB; have HO222 := n0_; have BK218 := n1_; have HB := n2_; clear n0_ n1_ n2_; (try clear hb); (try clear hb2); (try clear hk); (try clear hi); (try clear ho0); obtain ⟨Ao44, co44, eo44⟩ := Kd.R_slice HO222.out; subst eo44))
              have n0_ := zA (Kd.R_drew HO222.out); have n1_ := zA (blk_drew BK218.out); have n2_ := zA (below_drew1 HB.out); clear HO222; clear BK218; clear HB; have HO222 := n0_; have BK218 := n1_; have HB := n2_; clear n0_ n1_ n2_; have p223 : 0 ≤ (0 : Int) := (by omega); have q223 : 0 < (t220.length : Int) := of_decide_eq_true (by first | (with_reducible assumption) | assumption)
              obtain ⟨ad223, e223, hx223_0⟩ := Kd.at_string (Kd.R_reads' HO222.out).2.2 0 p223 q223
              cases e223
              have qi223 : (0 < t220.length) = True := eq_true (by omega)
              (try rw [show ((0 : Int)).toNat = 0 from rfl] at hx223_0)
              (try rw [Addr.add_zero'] at hx223_0)
              replace p223 := eq_true p223
              replace q223 := eq_true q223
              have p224 : 0 ≤ (3 : Int) := (by omega); have q224 : 3 < (t220.length : Int) := of_decide_eq_true (by first | (with_reducible assumption) | assumption)
              obtain ⟨ad224, e224, hx224_0⟩ := Kd.at_string (Kd.R_reads' HO222.out).2.2 3 p224 q224
              obtain rfl : ad223 = ad224 := (by injection e224)
              (try simp only [show (3 : Int).toNat = 3 from rfl, Nat.reduceMul, Nat.reduceEqDiff, Go.Addr.add, ↓reduceIte] at hx224_0)
              have qi224 : (3 < t220.length) = True := eq_true (by omega)
              (try rw [show ((3 : Int)).toNat = 3 from rfl] at hx224_0)
              replace p224 := eq_true p224
              replace q224 := eq_true q224
              have p225 : 0 ≤ (5 : Int) := (by omega); have q225 : 5 < (t220.length : Int) := of_decide_eq_true (by first | (with_reducible assumption) | assumption)
              obtain ⟨ad225, e225, hx225_0⟩ := Kd.at_string (Kd.R_reads' HO222.out).2.2 5 p225 q225
              obtain rfl : ad223 = ad225 := (by injection e225)
              (try simp only [show (5 : Int).toNat = 5 from rfl, Nat.reduceMul, Nat.reduceEqDiff, Go.Addr.add, ↓reduceIte] at hx225_0)
              have qi225 : (5 < t220.length) = True := eq_true (by omega)
              (try rw [show ((5 : Int)).toNat = 5 from rfl] at hx225_0)
              replace p225 := eq_true p225
              replace q225 := eq_true q225
              have p226 : 0 ≤ (7 : Int) := (by omega); have q226 : 7 < (t220.length : Int) := of_decide_eq_true (by first | (with_reducible assumption) | assumption)
              obtain ⟨ad226, e226, hx226_0⟩ := Kd.at_string (Kd.R_reads' HO222.out).2.2 7 p226 q226
              obtain rfl : ad223 = ad226 := (by injection e226)
              (try simp only [show (7 : Int).toNat = 7 from rfl, Nat.reduceMul, Nat.reduceEqDiff, Go.Addr.add, ↓reduceIte] at hx226_0)
              have qi226 : (7 < t220.length) = True := eq_true (by omega)
              (try rw [show ((7 : Int)).toNat = 7 from rfl] at hx226_0)
              replace p226 := eq_true p226
              replace q226 := eq_true q226
              refine start_ (n := 19) (S := fun w' => w'.cell? ad223 = some (.string (rdOf ByteArray.empty t220 0)) ∧ w'.cell? ⟨ad223.block, ad223.off + 3, none⟩ = some (.string (rdOf ByteArray.empty t220 3)) ∧ w'.cell? ⟨ad223.block, ad223.off + 5, none⟩ = some (.string (rdOf ByteArray.empty t220 5)) ∧ w'.cell? ⟨ad223.block, ad223.off + 7, none⟩ = some (.string (rdOf ByteArray.empty t220 7))) (ds := []) #[false, false, false, false, false, false, false, false, false, false, false, false, false, false, false, false, false, false, false] (by kernel_rfl) rfl rfl ⟨hx223_0, hx224_0, hx225_0, hx226_0⟩ (fun hHeld => ?_); refine with_tabW impl_ParseShade.tab4 impl_ParseShade.bits4 (fun HT_ HW_ => ?_)
              generalize w43.drew = w45 at HO222 BK218 HB hx223_0 hx224_0 hx225_0 hx226_0 hHeld ⊢
              refine pure_ (i := 0) (N := some 18) (v := ?_) (a' := ?_) #[true, false, false, false, false, false, false, false, false, false, false, false, false, false, false, false, false, false, false] rfl rfl (any_of HT_.out (by kernel_rfl)) (fun _ _ _ h => h) (Or.inl ⟨by rfl, ?_⟩) ?_ ?_
              rotate_left
              ·intro w'
               go_simp
               first
                | with_reducible rfl
                | (rw [if_neg (by simp only [ByteArray.size_append, zl12_0, zl12_1, ByteArray.size_extract] at *; omega)])
              rotate_left
              ·simp only [Act.put, List.setIfInBounds_toArray, List.set_cons_zero, List.set_cons_succ, i64_w, i32_w]
               rfl
              refine pure_ (i := 1) (N := some 19) (v := ?_) (a' := ?_) #[true, true, false, false, false, false, false, false, false, false, false, false, false, false, false, false, false, false, false] rfl rfl (any_of HT_.out (by kernel_rfl)) (fun _ _ _ h => h) (Or.inl ⟨by rfl, ?_⟩) ?_ ?_
              rotate_left
              ·intro w'
               go_simp
               first
                | with_reducible rfl
                | (rw [if_neg (by simp only [ByteArray.size_append, zl12_0, zl12_1, ByteArray.size_extract] at *; omega)])
              rotate_left
              ·simp only [Act.put, List.setIfInBounds_toArray, List.set_cons_zero, List.set_cons_succ, i64_w, i32_w]
               rfl
              refine pure_ (i := 3) (N := some 21) (v := ?_) (a' := ?_) #[true, true, false, true, false, false, false, false, false, false, false, false, false, false, false, false, false, false, false] rfl rfl (any_of HT_.out (by kernel_rfl)) (fun _ _ _ h => h) (Or.inl ⟨by rfl, ?_⟩) ?_ ?_
              rotate_left
              ·intro w'
               go_simp
               first
                | with_reducible rfl
                | (rw [if_neg (by simp only [ByteArray.size_append, zl12_0, zl12_1, ByteArray.size_extract] at *; omega)])
              rotate_left
              ·simp only [Act.put, List.setIfInBounds_toArray, List.set_cons_zero, List.set_cons_succ, i64_w, i32_w]
               rfl
              refine pure_ (i := 4) (N := some 22) (v := ?_) (a' := ?_) #[true, true, false, true, true, false, false, false, false, false, false, false, false, false, false, false, false, false, false] rfl rfl (any_of HT_.out (by kernel_rfl)) (fun _ _ _ h => h) (Or.inl ⟨by rfl, ?_⟩) ?_ ?_
              rotate_left
              ·intro w'
               go_simp
               first
                | with_reducible rfl
                | (rw [if_neg (by simp only [ByteArray.size_append, zl12_0, zl12_1, ByteArray.size_extract] at *; omega)])
              rotate_left
              ·simp only [Act.put, List.setIfInBounds_toArray, List.set_cons_zero, List.set_cons_succ, i64_w, i32_w]
               rfl
              refine pure_ (i := 6) (N := some 24) (v := ?_) (a' := ?_) #[true, true, false, true, true, false, true, false, false, false, false, false, false, false, false, false, false, false, false] rfl rfl (any_of HT_.out (by kernel_rfl)) (fun _ _ _ h => h) (Or.inl ⟨by rfl, ?_⟩) ?_ ?_
              rotate_left
              ·intro w'
               go_simp
               first
                | with_reducible rfl
                | (rw [if_neg (by simp only [ByteArray.size_append, zl12_0, zl12_1, ByteArray.size_extract] at *; omega)])
              rotate_left
              ·simp only [Act.put, List.setIfInBounds_toArray, List.set_cons_zero, List.set_cons_succ, i64_w, i32_w]
               rfl
              refine pure_ (i := 7) (N := some 25) (v := ?_) (a' := ?_) #[true, true, false, true, true, false, true, true, false, false, false, false, false, false, false, false, false, false, false] rfl rfl (any_of HT_.out (by kernel_rfl)) (fun _ _ _ h => h) (Or.inl ⟨by rfl, ?_⟩) ?_ ?_
              rotate_left
              ·intro w'
               go_simp
               first
                | with_reducible rfl
                | (rw [if_neg (by simp only [ByteArray.size_append, zl12_0, zl12_1, ByteArray.size_extract] at *; omega)])
              rotate_left
              ·simp only [Act.put, List.setIfInBounds_toArray, List.set_cons_zero, List.set_cons_succ, i64_w, i32_w]
               rfl
              refine pure_ (i := 9) (N := some 27) (v := ?_) (a' := ?_) #[true, true, false, true, true, false, true, true, false, true, false, false, false, false, false, false, false, false, false] rfl rfl (any_of HT_.out (by kernel_rfl)) (fun _ _ _ h => h) (Or.inl ⟨by rfl, ?_⟩) ?_ ?_
              rotate_left
              ·intro w'
               go_simp
               first
                | with_reducible rfl
                | (rw [if_neg (by simp only [ByteArray.size_append, zl12_0, zl12_1, ByteArray.size_extract] at *; omega)])
              rotate_left
              ·simp only [Act.put, List.setIfInBounds_toArray, List.set_cons_zero, List.set_cons_succ, i64_w, i32_w]
               rfl
              refine pure_ (i := 10) (N := some 28) (v := ?_) (a' := ?_) #[true, true, false, true, true, false, true, true, false, true, true, false, false, false, false, false, false, false, false] rfl rfl (any_of HT_.out (by kernel_rfl)) (fun _ _ _ h => h) (Or.inl ⟨by rfl, ?_⟩) ?_ ?_
              rotate_left
              ·intro w'
               go_simp
               first
                | with_reducible rfl
                | (rw [if_neg (by simp only [ByteArray.size_append, zl12_0, zl12_1, ByteArray.size_extract] at *; omega)])
              rotate_left
              ·simp only [Act.put, List.setIfInBounds_toArray, List.set_cons_zero, List.set_cons_succ, i64_w, i32_w]
               rfl
              refine take_ (i := 2) (N := some 20) (v := ?_) (a' := ?_) #[true, true, true, true, true, false, true, true, false, true, true, false, false, false, false, false, false, false, false] rfl rfl (take_ofW HT_.out HW_.out (by kernel_rfl)) (fun _ _ _ h => h) (Or.inl ⟨by rfl, ?_⟩) hHeld ?_ ?_
              rotate_left
              ·rintro w' ⟨s0, s1, s2, s3⟩
               go_simp
               with_reducible rfl
              rotate_left
              ·simp only [Act.put, List.setIfInBounds_toArray, List.set_cons_zero, List.set_cons_succ, i64_w, i32_w]
               rfl
              refine take_ (i := 5) (N := some 23) (v := ?_) (a' := ?_) #[true, true, true, true, true, true, true, true, false, true, true, false, false, false, false, false, false, false, false] rfl rfl (take_ofW HT_.out HW_.out (by kernel_rfl)) (fun _ _ _ h => h) (Or.inl ⟨by rfl, ?_⟩) hHeld ?_ ?_
              rotate_left
              ·rintro w' ⟨s0, s1, s2, s3⟩
               go_simp
               with_reducible rfl
              rotate_left
              ·simp only [Act.put, List.setIfInBounds_toArray, List.set_cons_zero, List.set_cons_succ, i64_w, i32_w]
               rfl
              refine take_ (i := 8) (N := some 26) (v := ?_) (a' := ?_) #[true, true, true, true, true, true, true, true, true, true, true, false, false, false, false, false, false, false, false] rfl rfl (take_ofW HT_.out HW_.out (by kernel_rfl)) (fun _ _ _ h => h) (Or.inl ⟨by rfl, ?_⟩) hHeld ?_ ?_
              rotate_left
              ·rintro w' ⟨s0, s1, s2, s3⟩
               go_simp
               with_reducible rfl
              rotate_left
              ·simp only [Act.put, List.setIfInBounds_toArray, List.set_cons_zero, List.set_cons_succ, i64_w, i32_w]
               rfl
              refine take_ (i := 11) (N := some 29) (v := ?_) (a' := ?_) #[true, true, true, true, true, true, true, true, true, true, true, true, false, false, false, false, false, false, false] rfl rfl (take_ofW HT_.out HW_.out (by kernel_rfl)) (fun _ _ _ h => h) (Or.inl ⟨by rfl, ?_⟩) hHeld ?_ ?_
              rotate_left
              ·rintro w' ⟨s0, s1, s2, s3⟩
               go_simp
               with_reducible rfl
              rotate_left
              ·simp only [Act.put, List.setIfInBounds_toArray, List.set_cons_zero, List.set_cons_succ, i64_w, i32_w]
               rfl
              refine one_ (i := 12) (N := some 30) #[true, true, true, true, true, true, true, true, true, true, true, true, true, false, false, false, false, false, false] rfl rfl (one_of HT_.out (by kernel_rfl)) (by decide) (fun K hK => ?_)
              refine Kd.R_lit_step Kd.string _ 9 ?hg (N := 30) ?hd (xs := ([rdOf ByteArray.empty t220 0, rdOf ByteArray.empty t220 3, rdOf ByteArray.empty t220 5, rdOf ByteArray.empty t220 7] : List ByteArray)) (inner := [.string (rdOf ByteArray.empty t220 0), .string (rdOf ByteArray.empty t220 3), .string (rdOf ByteArray.empty t220 5), .string (rdOf ByteArray.empty t220 7)]) (ok := fun _ => True) (okp := fun _ => True) ?hr ?hp (fun _ hk => hk) trivial (Below.refl _ _) (Nat.le_refl _) (by simp) ?_; (case hd => rfl); (case hg => rfl); (case hr => first | (go_simp; done) | (go_simp; rfl)); (case hp => exact (Reps.one (show Kd.M Kd.string _ _ _ (rdOf ByteArray.empty t220 0) [.string (rdOf ByteArray.empty t220 0)] from rfl) (Reps.one (show Kd.M Kd.string _ _ _ (rdOf ByteArray.empty t220 3) [.string (rdOf ByteArray.empty t220 3)] from rfl) (Reps.one (show Kd.M Kd.string _ _ _ (rdOf ByteArray.empty t220 5) [.string (rdOf ByteArray.empty t220 5)] from rfl) (Reps.one (show Kd.M Kd.string _ _ _ (rdOf ByteArray.empty t220 7) [.string (rdOf ByteArray.empty t220 7)] from rfl) (Reps.none _ _))))))
              intro v228 w46 ho47 hb hg_ hnew_
              have HS0_ := (hb.cell (World.block_lt_of_cell? _ _ (hHeld.1))).trans (hHeld.1); have HS1_ := (hb.cell (World.block_lt_of_cell? _ _ (hHeld.2.1))).trans (hHeld.2.1); have HS2_ := (hb.cell (World.block_lt_of_cell? _ _ (hHeld.2.2.1))).trans (hHeld.2.2.1); have HS3_ := (hb.cell (World.block_lt_of_cell? _ _ (hHeld.2.2.2))).trans (hHeld.2.2.2); clear hg_ hnew_
              (first | rw [← Ny227.out] at ho47 | (simp only [Int.reduceToNat] at ho47; rw [← Ny227.out] at ho47))
              have n0_ := zA (Kd.R_elder' (zR HO222) (Kd.R_base ho47) hb); have n1_ := zA (Kd.R_lower (Kd.R_new' ho47 (Kd.R_lt (zR HO222))) (below_size (zW1 HB GE218))); have n2_ := zA (blk_below (g := gb218) (o := .cells #[.int .i64 0, .string (⟨#[]⟩ : ByteArray), .int .i64 0, .int .i64 0, .int .i64 0] 26 (0, 0)) (zB BK218) hb); have n3_ := zA (below_step (zW1 HB GE218) hb); clear HO222; clear BK218; clear HB; have HO222 := n0_; have HO229 := n1_; have BK218 := n2_; have HB := n3_; clear n0_ n1_ n2_ n3_; clear hb ho47
              obtain ⟨Ao48, co48, eo48⟩ := Kd.R_slice HO229.out
              (first | subst eo48 | (injection eo48 with f1_ f2_ f3_; have f4_ := f1_.symm; have f5_ := f3_.symm; clear f1_ f2_ f3_; subst f4_; subst f5_))
              refine hK.out _ _ ⟨HS0_, HS1_, HS2_, HS3_⟩ (fun hHeld => ?_)
              clear hK K
              refine norm_ (a' := ?_) ?_ ?_
              rotate_left
              ·show Act.put _ (some 30) _ = _
               simp only [Act.put, List.setIfInBounds_toArray, List.set_cons_zero, List.set_cons_succ, i64_w, i32_w]
               rfl
              refine one_ (i := 13) (N := some 31) #[true, true, true, true, true, true, true, true, true, true, true, true, true, true, false, false, false, false, false] rfl rfl (one_of HT_.out (by kernel_rfl)) (by decide) (fun K hK => ?_)
              refine goes_ Tryd.func19 (by kernel_rfl) rfl #[.slice Ao48 y227.length co48] (by rfl) rfl rfl (zM) ?_
              with_reducible refine (impl_parseInts.calls k _ _ y227 t230 true _ ?side1 ?side2 A9.out (TT_below HT.out (by repeat (first | (with_reducible first | exact HB.out | apply below_alloc | apply pw_below_drewN | apply below_drew1) | exact HB.out | exact Below.refl _ _)))).mono ?_
              (case side1 => repeat (first | exact (Kd.R_reads' HO229.out).2.2 | (with_reducible refine Kd.C_alloc ?_ _) | (with_reducible refine Kd.C_drewN ?_ _) | (with_reducible refine Kd.C_drew ?_)))
              (case side2 => exact (Kd.R_reads' HO229.out).2.1)
              rintro e w49 ⟨v232, rfl, ho0, hb⟩
              have HS0_ := (hb.cell (World.block_lt_of_cell? _ _ (hHeld.1))).trans (hHeld.1); have HS1_ := (hb.cell (World.block_lt_of_cell? _ _ (hHeld.2.1))).trans (hHeld.2.1); have HS2_ := (hb.cell (World.block_lt_of_cell? _ _ (hHeld.2.2.1))).trans (hHeld.2.2.1); have HS3_ := (hb.cell (World.block_lt_of_cell? _ _ (hHeld.2.2.2))).trans (hHeld.2.2.2)
              refine ⟨_, rfl, ?_⟩
              have n0_ := zA (Kd.R_below (zR HO222) hb); have n1_ := zA (Kd.R_below (zR HO229) hb); have n2_ := zA (Kd.R_lower ho0 (below_size (zW1 HB GE218))); have n3_ := zA (blk_below (g := gb218) (o := .cells #[.int .i64 0, .string (⟨#[]⟩ : ByteArray), .int .i64 0, .int .i64 0, .int .i64 0] 26 (0, 0)) (zB BK218) hb); have n4_ := zA (below_step (zW1 HB GE218) hb); clear HO222; clear HO229; clear BK218; clear HB; have HO222 := n0_; have HO229 := n1_; have HO233 := n2_; have BK218 := n3_; have HB := n4_; clear n0_ n1_ n2_ n3_ n4_; (try clear hb); (try clear hb2); (try clear hk); (try clear hi); (try clear ho0)
              refine hK.out _ _ ⟨HS0_, HS1_, HS2_, HS3_⟩ (fun hHeld => ?_)
              clear hK K
              refine norm_ (a' := ?_) ?_ ?_
              rotate_left
              ·show Act.put _ (some 31) _ = _
               simp only [Act.put, List.setIfInBounds_toArray, List.set_cons_zero, List.set_cons_succ, i64_w, i32_w]
               rfl
              refine pure_ (i := 14) (N := some 17) (v := ?_) (a' := ?_) #[true, true, true, true, true, true, true, true, true, true, true, true, true, true, true, false, false, false, false] rfl rfl (any_of HT_.out (by kernel_rfl)) (fun _ _ _ h => h) (Or.inl ⟨by rfl, ?_⟩) ?_ ?_
              rotate_left
              ·intro w'
               go_simp
               first
                | with_reducible rfl
                | (rw [if_neg (by simp only [ByteArray.size_append, zl12_0, zl12_1, ByteArray.size_extract] at *; omega)])
              rotate_left
              ·simp only [Act.put, List.setIfInBounds_toArray, List.set_cons_zero, List.set_cons_succ, i64_w, i32_w]
               rfl
              refine pure_ (i := 15) (N := some 32) (v := ?_) (a' := ?_) #[true, true, true, true, true, true, true, true, true, true, true, true, true, true, true, true, false, false, false] rfl rfl (any_of HT_.out (by kernel_rfl)) (fun _ _ _ h => h) (Or.inl ⟨by rfl, ?_⟩) ?_ ?_
              rotate_left
              ·intro w'
               go_simp
               first
                | with_reducible rfl
                | (rw [if_neg (by simp only [ByteArray.size_append, zl12_0, zl12_1, ByteArray.size_extract] at *; omega)])
              rotate_left
              ·simp only [Act.put, List.setIfInBounds_toArray, List.set_cons_zero, List.set_cons_succ, i64_w, i32_w]
               rfl
              refine pure_ (i := 16) (N := some 33) (v := ?_) (a' := ?_) #[true, true, true, true, true, true, true, true, true, true, true, true, true, true, true, true, true, false, false] rfl rfl (any_of HT_.out (by kernel_rfl)) (fun _ _ _ h => h) (Or.inl ⟨by rfl, ?_⟩) ?_ ?_
              rotate_left
              ·intro w'
               go_simp
               first
                | with_reducible rfl
                | (rw [if_neg (by simp only [ByteArray.size_append, zl12_0, zl12_1, ByteArray.size_extract] at *; omega)])
              rotate_left
              ·simp only [Act.put, List.setIfInBounds_toArray, List.set_cons_zero, List.set_cons_succ, i64_w, i32_w]
               rfl
              refine pure_ (i := 17) (N := some 5) (v := ?_) (a' := ?_) #[true, true, true, true, true, true, true, true, true, true, true, true, true, true, true, true, true, true, false] rfl rfl (any_of HT_.out (by kernel_rfl)) (fun _ _ _ h => h) (Or.inl ⟨by rfl, ?_⟩) ?_ ?_
              rotate_left
              ·intro w'
               go_simp
               first
                | with_reducible rfl
                | (rw [if_neg (by simp only [ByteArray.size_append, zl12_0, zl12_1, ByteArray.size_extract] at *; omega)])
              rotate_left
              ·simp only [Act.put, List.setIfInBounds_toArray, List.set_cons_zero, List.set_cons_succ, i64_w, i32_w]
               rfl
              refine pure_ (i := 18) (N := some 6) (v := ?_) (a' := ?_) #[true, true, true, true, true, true, true, true, true, true, true, true, true, true, true, true, true, true, true] rfl rfl (any_of HT_.out (by kernel_rfl)) (fun _ _ _ h => h) (Or.inl ⟨by rfl, ?_⟩) ?_ ?_
              rotate_left
              ·intro w'
               go_simp
               first
                | with_reducible rfl
                | (rw [if_neg (by simp only [ByteArray.size_append, zl12_0, zl12_1, ByteArray.size_extract] at *; omega)])
              rotate_left
              ·simp only [Act.put, List.setIfInBounds_toArray, List.set_cons_zero, List.set_cons_succ, i64_w, i32_w]
               rfl
              refine done_ (done_of HT_.out (by kernel_rfl)) ?_
              try go_wp2
              have n0_ := zA (Kd.R_drew HO222.out); have n1_ := zA (Kd.R_drew HO229.out); have n2_ := zA (Kd.R_drew HO233.out); have n3_ := zA (blk_drew BK218.out); have n4_ := zA (below_drew1 HB.out); clear HO222; clear HO229; clear HO233; clear BK218; clear HB; have HO222 := n0_; have HO229 := n1_; have HO233 := n2_; have BK218 := n3_; have HB := n4_; clear n0_ n1_ n2_ n3_ n4_
              obtain ⟨Ao51, co51, eo51⟩ := Kd.R_slice HO233.out
              (first | subst eo51 | (injection eo51 with f1_ f2_ f3_; have f4_ := f1_.symm; have f5_ := f3_.symm; clear f1_ f2_ f3_; subst f4_; subst f5_))
              have p234 : 0 ≤ (0 : Int) := (by omega); have q234 : 0 < (t230.length : Int) := of_decide_eq_true (by first | (with_reducible assumption) | assumption)
              obtain ⟨ad234, e234, hx234_0⟩ := Kd.at_int (Kd.R_reads' HO233.out).2.2 0 p234 q234
              cases e234
              have qi234 : (0 < t230.length) = True := eq_true (by omega)
              (try rw [show ((0 : Int)).toNat = 0 from rfl] at hx234_0)
              (try rw [Addr.add_zero'] at hx234_0)
              replace p234 := eq_true p234
              replace q234 := eq_true q234
              have p235 : 0 ≤ (1 : Int) := (by omega); have q235 : 1 < (t220.length : Int) := of_decide_eq_true (by first | (with_reducible assumption) | assumption)
              obtain ⟨ad235, e235, hx235_0⟩ := Kd.at_string (Kd.R_reads' HO222.out).2.2 1 p235 q235
              obtain rfl : ad223 = ad235 := (by injection e235)
              (try simp only [show (1 : Int).toNat = 1 from rfl, Nat.reduceMul, Nat.reduceEqDiff, Go.Addr.add, ↓reduceIte] at hx235_0)
              have qi235 : (1 < t220.length) = True := eq_true (by omega)
              (try rw [show ((1 : Int)).toNat = 1 from rfl] at hx235_0)
              replace p235 := eq_true p235
              replace q235 := eq_true q235
              have p236 : 0 ≤ (1 : Int) := (by omega); have q236 : 1 < (t230.length : Int) := of_decide_eq_true (by first | (with_reducible assumption) | assumption)
              obtain ⟨ad236, e236, hx236_0⟩ := Kd.at_int (Kd.R_reads' HO233.out).2.2 1 p236 q236
              obtain rfl : ad234 = ad236 := (by injection e236)
              (try simp only [show (1 : Int).toNat = 1 from rfl, Nat.reduceMul, Nat.reduceEqDiff, Go.Addr.add, ↓reduceIte] at hx236_0)
              have qi236 : (1 < t230.length) = True := eq_true (by omega)
              (try rw [show ((1 : Int)).toNat = 1 from rfl] at hx236_0)
              replace p236 := eq_true p236
              replace q236 := eq_true q236
              have p237 : 0 ≤ (2 : Int) := (by omega); have q237 : 2 < (t230.length : Int) := of_decide_eq_true (by first | (with_reducible assumption) | assumption)
              obtain ⟨ad237, e237, hx237_0⟩ := Kd.at_int (Kd.R_reads' HO233.out).2.2 2 p237 q237
              obtain rfl : ad234 = ad237 := (by injection e237)
              (try simp only [show (2 : Int).toNat = 2 from rfl, Nat.reduceMul, Nat.reduceEqDiff, Go.Addr.add, ↓reduceIte] at hx237_0)
              have qi237 : (2 < t230.length) = True := eq_true (by omega)
              (try rw [show ((2 : Int)).toNat = 2 from rfl] at hx237_0)
              replace p237 := eq_true p237
              replace q237 := eq_true q237
              have p238 : 0 ≤ (3 : Int) := (by omega); have q238 : 3 < (t230.length : Int) := of_decide_eq_true (by first | (with_reducible assumption) | assumption)
              obtain ⟨ad238, e238, hx238_0⟩ := Kd.at_int (Kd.R_reads' HO233.out).2.2 3 p238 q238
              obtain rfl : ad234 = ad238 := (by injection e238)
              (try simp only [show (3 : Int).toNat = 3 from rfl, Nat.reduceMul, Nat.reduceEqDiff, Go.Addr.add, ↓reduceIte] at hx238_0)
              have qi238 : (3 < t230.length) = True := eq_true (by omega)
              (try rw [show ((3 : Int)).toNat = 3 from rfl] at hx238_0)
              replace p238 := eq_true p238
              replace q238 := eq_true q238
              refine start_ (n := 18) (S := fun w' => w'.cell? ad234 = some (.int .i64 (rd t230 0)) ∧ w'.cell? ⟨ad223.block, ad223.off + 1, none⟩ = some (.string (rdOf ByteArray.empty t220 1)) ∧ w'.cell? ⟨ad234.block, ad234.off + 1, none⟩ = some (.int .i64 (rd t230 1)) ∧ w'.cell? ⟨ad234.block, ad234.off + 2, none⟩ = some (.int .i64 (rd t230 2)) ∧ w'.cell? ⟨ad234.block, ad234.off + 3, none⟩ = some (.int .i64 (rd t230 3))) (ds := []) #[false, false, false, false, false, false, false, false, false, false, false, false, false, false, false, false, false, false] (by kernel_rfl) rfl rfl ⟨hx234_0, hx235_0, hx236_0, hx237_0, hx238_0⟩ (fun hHeld => ?_); refine with_tabW impl_ParseShade.tab7 impl_ParseShade.bits7 (fun HT_ HW_ => ?_)
              generalize w49.drew = w50 at HO222 HO229 HO233 BK218 HB hx234_0 hx235_0 hx236_0 hx237_0 hx238_0 hHeld ⊢
              refine pure_ (i := 0) (N := some 37) (v := ?_) (a' := ?_) #[true, false, false, false, false, false, false, false, false, false, false, false, false, false, false, false, false, false] rfl rfl (any_of HT_.out (by kernel_rfl)) (fun _ _ _ h => h) (Or.inl ⟨by rfl, ?_⟩) ?_ ?_
              rotate_left
              ·intro w'
               go_simp
               first
                | with_reducible rfl
                | (rw [if_neg (by simp only [ByteArray.size_append, zl12_0, zl12_1, ByteArray.size_extract] at *; omega)])
              rotate_left
              ·simp only [Act.put, List.setIfInBounds_toArray, List.set_cons_zero, List.set_cons_succ, i64_w, i32_w]
               rfl
              refine pure_ (i := 1) (N := some 38) (v := ?_) (a' := ?_) #[true, true, false, false, false, false, false, false, false, false, false, false, false, false, false, false, false, false] rfl rfl (any_of HT_.out (by kernel_rfl)) (fun _ _ _ h => h) (Or.inl ⟨by rfl, ?_⟩) ?_ ?_
              rotate_left
              ·intro w'
               go_simp
               first
                | with_reducible rfl
                | (rw [if_neg (by simp only [ByteArray.size_append, zl12_0, zl12_1, ByteArray.size_extract] at *; omega)])
              rotate_left
              ·simp only [Act.put, List.setIfInBounds_toArray, List.set_cons_zero, List.set_cons_succ, i64_w, i32_w]
               rfl
              refine pure_ (i := 3) (N := some 40) (v := ?_) (a' := ?_) #[true, true, false, true, false, false, false, false, false, false, false, false, false, false, false, false, false, false] rfl rfl (any_of HT_.out (by kernel_rfl)) (fun _ _ _ h => h) (Or.inl ⟨by rfl, ?_⟩) ?_ ?_
              rotate_left
              ·intro w'
               go_simp
               first
                | with_reducible rfl
                | (rw [if_neg (by simp only [ByteArray.size_append, zl12_0, zl12_1, ByteArray.size_extract] at *; omega)])
              rotate_left
              ·simp only [Act.put, List.setIfInBounds_toArray, List.set_cons_zero, List.set_cons_succ, i64_w, i32_w]
               rfl
              refine pure_ (i := 4) (N := some 41) (v := ?_) (a' := ?_) #[true, true, false, true, true, false, false, false, false, false, false, false, false, false, false, false, false, false] rfl rfl (any_of HT_.out (by kernel_rfl)) (fun _ _ _ h => h) (Or.inl ⟨by rfl, ?_⟩) ?_ ?_
              rotate_left
              ·intro w'
               go_simp
               first
                | with_reducible rfl
                | (rw [if_neg (by simp only [ByteArray.size_append, zl12_0, zl12_1, ByteArray.size_extract] at *; omega)])
              rotate_left
              ·simp only [Act.put, List.setIfInBounds_toArray, List.set_cons_zero, List.set_cons_succ, i64_w, i32_w]
               rfl
              refine pure_ (i := 6) (N := some 43) (v := ?_) (a' := ?_) #[true, true, false, true, true, false, true, false, false, false, false, false, false, false, false, false, false, false] rfl rfl (any_of HT_.out (by kernel_rfl)) (fun _ _ _ h => h) (Or.inl ⟨by rfl, ?_⟩) ?_ ?_
              rotate_left
              ·intro w'
               go_simp
               first
                | with_reducible rfl
                | (rw [if_neg (by simp only [ByteArray.size_append, zl12_0, zl12_1, ByteArray.size_extract] at *; omega)])
              rotate_left
              ·simp only [Act.put, List.setIfInBounds_toArray, List.set_cons_zero, List.set_cons_succ, i64_w, i32_w]
               rfl
              refine pure_ (i := 7) (N := some 44) (v := ?_) (a' := ?_) #[true, true, false, true, true, false, true, true, false, false, false, false, false, false, false, false, false, false] rfl rfl (any_of HT_.out (by kernel_rfl)) (fun _ _ _ h => h) (Or.inl ⟨by rfl, ?_⟩) ?_ ?_
              rotate_left
              ·intro w'
               go_simp
               first
                | with_reducible rfl
                | (rw [if_neg (by simp only [ByteArray.size_append, zl12_0, zl12_1, ByteArray.size_extract] at *; omega)])
              rotate_left
              ·simp only [Act.put, List.setIfInBounds_toArray, List.set_cons_zero, List.set_cons_succ, i64_w, i32_w]
               rfl
              refine pure_ (i := 9) (N := some 46) (v := ?_) (a' := ?_) #[true, true, false, true, true, false, true, true, false, true, false, false, false, false, false, false, false, false] rfl rfl (any_of HT_.out (by kernel_rfl)) (fun _ _ _ h => h) (Or.inl ⟨by rfl, ?_⟩) ?_ ?_
              rotate_left
              ·intro w'
               go_simp
               first
                | with_reducible rfl
                | (rw [if_neg (by simp only [ByteArray.size_append, zl12_0, zl12_1, ByteArray.size_extract] at *; omega)])
              rotate_left
              ·simp only [Act.put, List.setIfInBounds_toArray, List.set_cons_zero, List.set_cons_succ, i64_w, i32_w]
               rfl
              refine pure_ (i := 10) (N := some 47) (v := ?_) (a' := ?_) #[true, true, false, true, true, false, true, true, false, true, true, false, false, false, false, false, false, false] rfl rfl (any_of HT_.out (by kernel_rfl)) (fun _ _ _ h => h) (Or.inl ⟨by rfl, ?_⟩) ?_ ?_
              rotate_left
              ·intro w'
               go_simp
               first
                | with_reducible rfl
                | (rw [if_neg (by simp only [ByteArray.size_append, zl12_0, zl12_1, ByteArray.size_extract] at *; omega)])
              rotate_left
              ·simp only [Act.put, List.setIfInBounds_toArray, List.set_cons_zero, List.set_cons_succ, i64_w, i32_w]
               rfl
              refine pure_ (i := 12) (N := some 49) (v := ?_) (a' := ?_) #[true, true, false, true, true, false, true, true, false, true, true, false, true, false, false, false, false, false] rfl rfl (any_of HT_.out (by kernel_rfl)) (fun _ _ _ h => h) (Or.inl ⟨by rfl, ?_⟩) ?_ ?_
              rotate_left
              ·intro w'
               go_simp
               first
                | with_reducible rfl
                | (rw [if_neg (by simp only [ByteArray.size_append, zl12_0, zl12_1, ByteArray.size_extract] at *; omega)])
              rotate_left
              ·simp only [Act.put, List.setIfInBounds_toArray, List.set_cons_zero, List.set_cons_succ, i64_w, i32_w]
               rfl
              refine pure_ (i := 13) (N := some 50) (v := ?_) (a' := ?_) #[true, true, false, true, true, false, true, true, false, true, true, false, true, true, false, false, false, false] rfl rfl (any_of HT_.out (by kernel_rfl)) (fun _ _ _ h => h) (Or.inl ⟨by rfl, ?_⟩) ?_ ?_
              rotate_left
              ·intro w'
               go_simp
               first
                | with_reducible rfl
                | (rw [if_neg (by simp only [ByteArray.size_append, zl12_0, zl12_1, ByteArray.size_extract] at *; omega)])
              rotate_left
              ·simp only [Act.put, List.setIfInBounds_toArray, List.set_cons_zero, List.set_cons_succ, i64_w, i32_w]
               rfl
              refine take_ (i := 2) (N := some 39) (v := ?_) (a' := ?_) #[true, true, true, true, true, false, true, true, false, true, true, false, true, true, false, false, false, false] rfl rfl (take_ofW HT_.out HW_.out (by kernel_rfl)) (fun _ _ _ h => h) (Or.inl ⟨by rfl, ?_⟩) hHeld ?_ ?_
              rotate_left
              ·rintro w' ⟨s0, s1, s2, s3, s4⟩
               go_simp
               with_reducible rfl
              rotate_left
              ·simp only [Act.put, List.setIfInBounds_toArray, List.set_cons_zero, List.set_cons_succ, i64_w, i32_w]
               rfl
              refine take_ (i := 5) (N := some 42) (v := ?_) (a' := ?_) #[true, true, true, true, true, true, true, true, false, true, true, false, true, true, false, false, false, false] rfl rfl (take_ofW HT_.out HW_.out (by kernel_rfl)) (fun _ _ _ h => h) (Or.inl ⟨by rfl, ?_⟩) hHeld ?_ ?_
              rotate_left
              ·rintro w' ⟨s0, s1, s2, s3, s4⟩
               go_simp
               with_reducible rfl
              rotate_left
              ·simp only [Act.put, List.setIfInBounds_toArray, List.set_cons_zero, List.set_cons_succ, i64_w, i32_w]
               rfl
              refine take_ (i := 8) (N := some 45) (v := ?_) (a' := ?_) #[true, true, true, true, true, true, true, true, true, true, true, false, true, true, false, false, false, false] rfl rfl (take_ofW HT_.out HW_.out (by kernel_rfl)) (fun _ _ _ h => h) (Or.inl ⟨by rfl, ?_⟩) hHeld ?_ ?_
              rotate_left
              ·rintro w' ⟨s0, s1, s2, s3, s4⟩
               go_simp
               with_reducible rfl
              rotate_left
              ·simp only [Act.put, List.setIfInBounds_toArray, List.set_cons_zero, List.set_cons_succ, i64_w, i32_w]
               rfl
              refine take_ (i := 11) (N := some 48) (v := ?_) (a' := ?_) #[true, true, true, true, true, true, true, true, true, true, true, true, true, true, false, false, false, false] rfl rfl (take_ofW HT_.out HW_.out (by kernel_rfl)) (fun _ _ _ h => h) (Or.inl ⟨by rfl, ?_⟩) hHeld ?_ ?_
              rotate_left
              ·rintro w' ⟨s0, s1, s2, s3, s4⟩
               go_simp
               with_reducible rfl
              rotate_left
              ·simp only [Act.put, List.setIfInBounds_toArray, List.set_cons_zero, List.set_cons_succ, i64_w, i32_w]
               rfl
              refine take_ (i := 14) (N := some 51) (v := ?_) (a' := ?_) #[true, true, true, true, true, true, true, true, true, true, true, true, true, true, true, false, false, false] rfl rfl (take_ofW HT_.out HW_.out (by kernel_rfl)) (fun _ _ _ h => h) (Or.inl ⟨by rfl, ?_⟩) hHeld ?_ ?_
              rotate_left
              ·rintro w' ⟨s0, s1, s2, s3, s4⟩
               go_simp
               with_reducible rfl
              rotate_left
              ·simp only [Act.put, List.setIfInBounds_toArray, List.set_cons_zero, List.set_cons_succ, i64_w, i32_w]
               rfl
              refine pure_ (i := 15) (N := some 52) (v := ?_) (a' := ?_) #[true, true, true, true, true, true, true, true, true, true, true, true, true, true, true, true, false, false] rfl rfl (any_of HT_.out (by kernel_rfl)) (fun _ _ _ h => h) (Or.inl ⟨by rfl, ?_⟩) ?_ ?_
              rotate_left
              ·intro w'
               go_simp
               first
                | with_reducible rfl
                | (rw [if_neg (by simp only [ByteArray.size_append, zl12_0, zl12_1, ByteArray.size_extract] at *; omega)])
              rotate_left
              ·simp only [Act.put, List.setIfInBounds_toArray, List.set_cons_zero, List.set_cons_succ, i64_w, i32_w]
               rfl
              refine one_ (i := 16) (N := some 7) #[true, true, true, true, true, true, true, true, true, true, true, true, true, true, true, true, true, false] rfl rfl (one_of HT_.out (by kernel_rfl)) (by decide) (fun K hK => ?_)
              refine box_step ?hg (N := 7) ?hd (cs := #[.int .i64 0, .string (⟨#[]⟩ : ByteArray), .int .i64 0, .int .i64 0, .int .i64 0]) (t := 26) ?hr ?_; (case hd => rfl); (case hg => rfl); (case hr => first | (go_simp; done) | (go_simp; rfl))
              intro gb239 hg w52 hbox hb
              have HS0_ := (hb.cell (World.block_lt_of_cell? _ _ (hHeld.1))).trans (hHeld.1); have HS1_ := (hb.cell (World.block_lt_of_cell? _ _ (hHeld.2.1))).trans (hHeld.2.1); have HS2_ := (hb.cell (World.block_lt_of_cell? _ _ (hHeld.2.2.1))).trans (hHeld.2.2.1); have HS3_ := (hb.cell (World.block_lt_of_cell? _ _ (hHeld.2.2.2.1))).trans (hHeld.2.2.2.1); have HS4_ := (hb.cell (World.block_lt_of_cell? _ _ (hHeld.2.2.2.2))).trans (hHeld.2.2.2.2); have n0_ := zA (Kd.R_below (zR HO222) hb); have n1_ := zA (Kd.R_below (zR HO229) hb); have n2_ := zA (Kd.R_below (zR HO233) hb); have n3_ := zA (blk_below (g := gb218) (o := .cells #[.int .i64 0, .string (⟨#[]⟩ : ByteArray), .int .i64 0, .int .i64 0, .int .i64 0] 26 (0, 0)) (zB BK218) hb); have n4_ := zA (below_step (zW1 HB GE218) hb); have n5_ := zA (hbox); have n6_ := zA ((by rw [hg]; exact (below_size (zW1 HB GE218)) : w.heap.size ≤ gb239)); have n7_ := zA ((by rw [hg]; exact (below_size (zW1 HB GE218)) : w.heap.size ≤ gb239)); have n8_ := zA ((by rw [hg]; exact Nat.ne_of_lt (blk_lt (g := gb218) (o := .cells #[.int .i64 0, .string (⟨#[]⟩ : ByteArray), .int .i64 0, .int .i64 0, .int .i64 0] 26 (0, 0)) (zB BK218)) : gb218 ≠ gb239)); have n9_ := zA ((by rw [hg]; exact Nat.ne_of_gt (blk_lt (g := gb218) (o := .cells #[.int .i64 0, .string (⟨#[]⟩ : ByteArray), .int .i64 0, .int .i64 0, .int .i64 0] 26 (0, 0)) (zB BK218)) : gb239 ≠ gb218)); clear HO222; clear HO229; clear HO233; clear BK218; clear HB; have HO222 := n0_; have HO229 := n1_; have HO233 := n2_; have BK218 := n3_; have HB := n4_; have BK239 := n5_; have GW239 := n6_; have GE239 := n7_; have NB218_239 := n8_; have NB239_218 := n9_; clear n0_ n1_ n2_ n3_ n4_ n5_ n6_ n7_ n8_ n9_; clear hb hbox hg
              refine hK.out _ _ ⟨HS0_, HS1_, HS2_, HS3_, HS4_⟩ (fun hHeld => ?_)
              clear hK K
              refine norm_ (a' := ?_) ?_ ?_
              rotate_left
              ·show Act.put _ (some 7) _ = _
               simp only [Act.put, List.setIfInBounds_toArray, List.set_cons_zero, List.set_cons_succ, i64_w, i32_w]
               rfl
              refine one_ (i := 17) (N := none) #[true, true, true, true, true, true, true, true, true, true, true, true, true, true, true, true, true, true] rfl rfl (one_of HT_.out (by kernel_rfl)) (by decide) (fun K hK => ?_)
              have hs53 : w52.cell? ⟨gb239, 0, none⟩ = some (.int .i64 0) := (blk_cell BK239.out 0).trans rfl; have hfs53 := blk_frozen BK239.out 0; have hns53_0 := NB218_239.out; have hms53_0 := NB239_218.out; have hs54 : w52.cell? ⟨gb239, 1, none⟩ = some (.string (⟨#[]⟩ : ByteArray)) := (blk_cell BK239.out 1).trans rfl; have hfs54 := blk_frozen BK239.out 1; have hns54_0 := NB218_239.out; have hms54_0 := NB239_218.out; have hs55 : w52.cell? ⟨gb239, 2, none⟩ = some (.int .i64 0) := (blk_cell BK239.out 2).trans rfl; have hfs55 := blk_frozen BK239.out 2; have hns55_0 := NB218_239.out; have hms55_0 := NB239_218.out; have hs56 : w52.cell? ⟨gb239, 3, none⟩ = some (.int .i64 0) := (blk_cell BK239.out 3).trans rfl; have hfs56 := blk_frozen BK239.out 3; have hns56_0 := NB218_239.out; have hms56_0 := NB239_218.out; have hs57 : w52.cell? ⟨gb239, 4, none⟩ = some (.int .i64 0) := (blk_cell BK239.out 4).trans rfl; have hfs57 := blk_frozen BK239.out 4; have hns57_0 := NB218_239.out; have hms57_0 := NB239_218.out
              refine skip_ (w1 := ?_) (by rfl) rfl ?_ ?_
              rotate_left
              ·go_simp
               rfl
              have nH_ad223 : ad223.block ≠ gb239 := Kd.own_blk (Kd.R_ne HO222.out BK239.out (by decide)); have nH_ad234 : ad234.block ≠ gb239 := Kd.own_blk (Kd.R_ne HO233.out BK239.out (by decide))
              have eH0_ := fun (W_ : World) (j_ : Nat) (u_ : Value) => cell_far (W := W_) (p := ⟨gb239, j_, none⟩) (a := ad234) nH_ad234 u_
              have eH1_ := fun (W_ : World) (j_ : Nat) (u_ : Value) => cell_far (W := W_) (p := ⟨gb239, j_, none⟩) (a := ⟨ad223.block, ad223.off + 1, none⟩) nH_ad223 u_
              have eH2_ := fun (W_ : World) (j_ : Nat) (u_ : Value) => cell_far (W := W_) (p := ⟨gb239, j_, none⟩) (a := ⟨ad234.block, ad234.off + 1, none⟩) nH_ad234 u_
              have eH3_ := fun (W_ : World) (j_ : Nat) (u_ : Value) => cell_far (W := W_) (p := ⟨gb239, j_, none⟩) (a := ⟨ad234.block, ad234.off + 2, none⟩) nH_ad234 u_
              have eH4_ := fun (W_ : World) (j_ : Nat) (u_ : Value) => cell_far (W := W_) (p := ⟨gb239, j_, none⟩) (a := ⟨ad234.block, ad234.off + 3, none⟩) nH_ad234 u_
              refine hK.out _ _ ⟨(eH0_ _ _ _).trans ((eH0_ _ _ _).trans ((eH0_ _ _ _).trans ((eH0_ _ _ _).trans ((eH0_ _ _ _).trans (hHeld.1))))), (eH1_ _ _ _).trans ((eH1_ _ _ _).trans ((eH1_ _ _ _).trans ((eH1_ _ _ _).trans ((eH1_ _ _ _).trans (hHeld.2.1))))), (eH2_ _ _ _).trans ((eH2_ _ _ _).trans ((eH2_ _ _ _).trans ((eH2_ _ _ _).trans ((eH2_ _ _ _).trans (hHeld.2.2.1))))), (eH3_ _ _ _).trans ((eH3_ _ _ _).trans ((eH3_ _ _ _).trans ((eH3_ _ _ _).trans ((eH3_ _ _ _).trans (hHeld.2.2.2.1))))), (eH4_ _ _ _).trans ((eH4_ _ _ _).trans ((eH4_ _ _ _).trans ((eH4_ _ _ _).trans ((eH4_ _ _ _).trans (hHeld.2.2.2.2)))))⟩ (fun hHeld => ?_)
              clear nH_ad223 nH_ad234 eH0_ eH1_ eH2_ eH3_ eH4_ hK K
              refine done_ (done_of HT_.out (by kernel_rfl)) ?_
              have hnb58 := NB239_218.out; have hnc58 := NB218_239.out; have hcz59_0 : w52.cell? ⟨gb239, 0, none⟩ = some (.int .i64 0) := (blk_cell BK239.out 0).trans rfl; have hcz59_1 : w52.cell? ⟨gb239, 1, none⟩ = some (.string (⟨#[]⟩ : ByteArray)) := (blk_cell BK239.out 1).trans rfl; have hcz59_2 : w52.cell? ⟨gb239, 2, none⟩ = some (.int .i64 0) := (blk_cell BK239.out 2).trans rfl; have hcz59_3 : w52.cell? ⟨gb239, 3, none⟩ = some (.int .i64 0) := (blk_cell BK239.out 3).trans rfl; have hcz59_4 : w52.cell? ⟨gb239, 4, none⟩ = some (.int .i64 0) := (blk_cell BK239.out 4).trans rfl; have hfz59_0 := blk_frozen BK239.out 0; have hfz59_1 := blk_frozen BK239.out 1; have hfz59_2 := blk_frozen BK239.out 2; have hfz59_3 := blk_frozen BK239.out 3; have hfz59_4 := blk_frozen BK239.out 4
              try go_wp2_with (first | ((with_reducible refine gate_callee (f := 20) rfl ?_); refine goesL_ (some 55) rfl rfl Tryd.func20 (by kernel_rfl) rfl #[.agg #[.int .i64 (rd t230 0), .string (rdOf ByteArray.empty t220 1), .int .i64 (rd t230 1), .int .i64 (rd t230 2), .int .i64 (rd t230 3)]] rfl (zM) ?_; (with_reducible refine (impl_ShadeText.calls (rd t230 0) (rdOf ByteArray.empty t220 1) (rd t230 1) (rd t230 2) (rd t230 3) t240 true _ A16.out (TT_below HT.out (by repeat (first | (with_reducible first | exact HB.out | apply below_alloc | apply pw_below_drewN | apply below_drew1 | refine below_set ?_ GE218.out | refine below_set ?_ GE239.out) | exact HB.out | exact Below.refl _ _)))).mono ?_); rintro e w60 ⟨rfl, hb⟩; refine ⟨_, rfl, ?_⟩; have n0_ := zA (Kd.R_below (by (with_reducible repeat (first | apply Kd.R_alloc | apply Kd.R_drewN | apply Kd.R_drew)); exact (Kd.R_mono (Kd.R_far (p := ⟨gb239, 4, none⟩) (Kd.R_far (p := ⟨gb239, 3, none⟩) (Kd.R_far (p := ⟨gb239, 2, none⟩) (Kd.R_far (p := ⟨gb239, 1, none⟩) (Kd.R_far (p := ⟨gb239, 0, none⟩) (Kd.R_types HO222.out BK239.out (by decide)) (fun _ hk => hk.2) (.int .i64 (rd t230 0))) (fun _ hk => hk.2) (.string (rdOf ByteArray.empty t220 1))) (fun _ hk => hk.2) (.int .i64 (rd t230 1))) (fun _ hk => hk.2) (.int .i64 (rd t230 2))) (fun _ hk => hk.2) (.int .i64 (rd t230 3))) (fun _ h_ => h_.1))) hb); have n1_ := zA (Kd.R_below (by (with_reducible repeat (first | apply Kd.R_alloc | apply Kd.R_drewN | apply Kd.R_drew)); exact (Kd.R_mono (Kd.R_far (p := ⟨gb239, 4, none⟩) (Kd.R_far (p := ⟨gb239, 3, none⟩) (Kd.R_far (p := ⟨gb239, 2, none⟩) (Kd.R_far (p := ⟨gb239, 1, none⟩) (Kd.R_far (p := ⟨gb239, 0, none⟩) (Kd.R_types HO229.out BK239.out (by decide)) (fun _ hk => hk.2) (.int .i64 (rd t230 0))) (fun _ hk => hk.2) (.string (rdOf ByteArray.empty t220 1))) (fun _ hk => hk.2) (.int .i64 (rd t230 1))) (fun _ hk => hk.2) (.int .i64 (rd t230 2))) (fun _ hk => hk.2) (.int .i64 (rd t230 3))) (fun _ h_ => h_.1))) hb); have n2_ := zA (Kd.R_below (by (with_reducible repeat (first | apply Kd.R_alloc | apply Kd.R_drewN | apply Kd.R_drew)); exact (Kd.R_mono (Kd.R_far (p := ⟨gb239, 4, none⟩) (Kd.R_far (p := ⟨gb239, 3, none⟩) (Kd.R_far (p := ⟨gb239, 2, none⟩) (Kd.R_far (p := ⟨gb239, 1, none⟩) (Kd.R_far (p := ⟨gb239, 0, none⟩) (Kd.R_types HO233.out BK239.out (by decide)) (fun _ hk => hk.2) (.int .i64 (rd t230 0))) (fun _ hk => hk.2) (.string (rdOf ByteArray.empty t220 1))) (fun _ hk => hk.2) (.int .i64 (rd t230 1))) (fun _ hk => hk.2) (.int .i64 (rd t230 2))) (fun _ hk => hk.2) (.int .i64 (rd t230 3))) (fun _ h_ => h_.1))) hb); have n3_ := zA (blk_below (g := gb218) (o := .cells #[.int .i64 0, .string (⟨#[]⟩ : ByteArray), .int .i64 0, .int .i64 0, .int .i64 0] 26 (0, 0)) (zF BK218 NB218_239) hb); have n4_ := zA (blk_below (g := gb239) (o := .cells #[.int .i64 (rd t230 0), .string (rdOf ByteArray.empty t220 1), .int .i64 (rd t230 1), .int .i64 (rd t230 2), .int .i64 (rd t230 3)] 26 (0, 0)) (by (with_reducible repeat (first | refine blk_drewN ?_ _ | refine blk_drew ?_ | refine blk_alloc ?_ _)); refine blk_put (cs := #[.int .i64 (rd t230 0), .string (rdOf ByteArray.empty t220 1), .int .i64 (rd t230 1), .int .i64 (rd t230 2), .int .i64 0]) ?_ 4 _ rfl; (with_reducible repeat (first | refine blk_drewN ?_ _ | refine blk_drew ?_ | refine blk_alloc ?_ _)); refine blk_put (cs := #[.int .i64 (rd t230 0), .string (rdOf ByteArray.empty t220 1), .int .i64 (rd t230 1), .int .i64 0, .int .i64 0]) ?_ 3 _ rfl; (with_reducible repeat (first | refine blk_drewN ?_ _ | refine blk_drew ?_ | refine blk_alloc ?_ _)); refine blk_put (cs := #[.int .i64 (rd t230 0), .string (rdOf ByteArray.empty t220 1), .int .i64 0, .int .i64 0, .int .i64 0]) ?_ 2 _ rfl; (with_reducible repeat (first | refine blk_drewN ?_ _ | refine blk_drew ?_ | refine blk_alloc ?_ _)); refine blk_put (cs := #[.int .i64 (rd t230 0), .string (⟨#[]⟩ : ByteArray), .int .i64 0, .int .i64 0, .int .i64 0]) ?_ 1 _ rfl; (with_reducible repeat (first | refine blk_drewN ?_ _ | refine blk_drew ?_ | refine blk_alloc ?_ _)); refine blk_put (cs := #[.int .i64 0, .string (⟨#[]⟩ : ByteArray), .int .i64 0, .int .i64 0, .int .i64 0]) ?_ 0 _ rfl; (with_reducible repeat (first | refine blk_drewN ?_ _ | refine blk_drew ?_ | refine blk_alloc ?_ _)); exact BK239.out) hb); have n5_ := zA (below_step (zW2 HB GE218 GE239) hb); clear HO222; clear HO229; clear HO233; clear BK218; clear BK239; clear HB; have HO222 := n0_; have HO229 := n1_; have HO233 := n2_; have BK218 := n3_; have BK239 := n4_; have HB := n5_; clear n0_ n1_ n2_ n3_ n4_ n5_; (try clear hb); (try clear hb2); (try clear hk); (try clear hi); have hcz61_0 : w60.cell? ⟨gb218, 0, none⟩ = some (.int .i64 0) := (blk_cell BK218.out 0).trans rfl; have hcz61_1 : w60.cell? ⟨gb218, 1, none⟩ = some (.string (⟨#[]⟩ : ByteArray)) := (blk_cell BK218.out 1).trans rfl; have hcz61_2 : w60.cell? ⟨gb218, 2, none⟩ = some (.int .i64 0) := (blk_cell BK218.out 2).trans rfl; have hcz61_3 : w60.cell? ⟨gb218, 3, none⟩ = some (.int .i64 0) := (blk_cell BK218.out 3).trans rfl; have hcz61_4 : w60.cell? ⟨gb218, 4, none⟩ = some (.int .i64 0) := (blk_cell BK218.out 4).trans rfl; have hfz61_0 := blk_frozen BK218.out 0; have hfz61_1 := blk_frozen BK218.out 1; have hfz61_2 := blk_frozen BK218.out 2; have hfz61_3 := blk_frozen BK218.out 3; have hfz61_4 := blk_frozen BK218.out 4))
              refine bodyPost_ret (results_ct rfl _ _ gb218 26 #[.int .i64 0, .string (⟨#[]⟩ : ByteArray), .int .i64 0, .int .i64 0, .int .i64 0] (0, 0) _ rfl (by (with_reducible repeat (first | refine blk_drewN ?_ _ | refine blk_drew ?_ | refine blk_alloc ?_ _)); refine blk_put (cs := #[.int .i64 0, .string (⟨#[]⟩ : ByteArray), .int .i64 0, .int .i64 0, .int .i64 0]) ?_ 4 _ rfl; (with_reducible repeat (first | refine blk_drewN ?_ _ | refine blk_drew ?_ | refine blk_alloc ?_ _)); refine blk_put (cs := #[.int .i64 0, .string (⟨#[]⟩ : ByteArray), .int .i64 0, .int .i64 0, .int .i64 0]) ?_ 3 _ rfl; (with_reducible repeat (first | refine blk_drewN ?_ _ | refine blk_drew ?_ | refine blk_alloc ?_ _)); refine blk_put (cs := #[.int .i64 0, .string (⟨#[]⟩ : ByteArray), .int .i64 0, .int .i64 0, .int .i64 0]) ?_ 2 _ rfl; (with_reducible repeat (first | refine blk_drewN ?_ _ | refine blk_drew ?_ | refine blk_alloc ?_ _)); refine blk_put (cs := #[.int .i64 0, .string (⟨#[]⟩ : ByteArray), .int .i64 0, .int .i64 0, .int .i64 0]) ?_ 1 _ rfl; (with_reducible repeat (first | refine blk_drewN ?_ _ | refine blk_drew ?_ | refine blk_alloc ?_ _)); refine blk_put (cs := #[.int .i64 0, .string (⟨#[]⟩ : ByteArray), .int .i64 0, .int .i64 0, .int .i64 0]) ?_ 0 _ rfl; (with_reducible repeat (first | refine blk_drewN ?_ _ | refine blk_drew ?_ | refine blk_alloc ?_ _)); exact BK218.out) Tryd.underlying26 rfl (by kernel_rfl)) rfl ?_
              exact ⟨by first | rfl | (simp [errW_none, errW_some] <;> rfl) | (simp [*, errW_none, errW_some] <;> rfl), by repeat (first | (with_reducible first | exact HB.out | apply below_alloc | apply pw_below_drewN | apply below_drew1 | refine below_set ?_ GE218.out | refine below_set ?_ GE239.out) | exact HB.out)⟩
            ·replace c17 := Bool.eq_false_iff.mpr c17
             subst c17
             have H1 : (some (0, (⟨#[]⟩ : ByteArray), 0, 0, 0, false)) = some (r1, r2, r3, r4, r5, r6) := by rw [if_neg (show ¬ (false = true) by decide)] at H; exact H
             clear H; have H := H1; clear H1
             simp only [Option.some.injEq, Prod.mk.injEq] at H
             obtain ⟨rfl, rfl, rfl, rfl, rfl, rfl⟩ := H
             go_enter Tryd.func8, Tryd.ntmps8
             try go_wp2_with (first | ((with_reducible refine gate_dst (N := 2) rfl ?_); refine box_event ?hg (N := 2) ?hd (cs := #[.int .i64 0, .string (⟨#[]⟩ : ByteArray), .int .i64 0, .int .i64 0, .int .i64 0]) (t := 26) ?hr ?_; (case hd => rfl); (case hg => rfl); (case hr => first | (go_simp; done) | (go_simp; rfl)); intro gb218 hg w62 hbox hb; have n0_ := zA (below_step (zW HB) hb); have n1_ := zA (hbox); have n2_ := zA ((by rw [hg]; exact (below_size (zW HB)) : w.heap.size ≤ gb218)); have n3_ := zA ((by rw [hg]; exact (below_size (zW HB)) : w.heap.size ≤ gb218)); clear HB; have HB := n0_; have BK218 := n1_; have GW218 := n2_; have GE218 := n3_; clear n0_ n1_ n2_ n3_; clear hb hbox hg) | ((with_reducible refine gate_callee (f := 18) rfl ?_); refine goesL_ (some 11) rfl rfl Tryd.func18 (by kernel_rfl) rfl #[.string a0, .string (⟨#[44]⟩ : ByteArray), .string (⟨#[]⟩ : ByteArray)] rfl (zM) ?_; (with_reducible refine (strings_ReplaceAll.calls a0 (⟨#[44]⟩ : ByteArray) (⟨#[]⟩ : ByteArray) t219 _ A2.out (TT_below HT.out (by repeat (first | (with_reducible first | exact HB.out | apply below_alloc | apply pw_below_drewN | apply below_drew1 | refine below_set ?_ GE218.out) | exact HB.out | exact Below.refl _ _)))).mono ?_); rintro e w63 ⟨rfl, hb⟩; refine ⟨_, rfl, ?_⟩; have n0_ := zA (blk_below (g := gb218) (o := .cells #[.int .i64 0, .string (⟨#[]⟩ : ByteArray), .int .i64 0, .int .i64 0, .int .i64 0] 26 (0, 0)) (zB BK218) hb); have n1_ := zA (below_step (zW1 HB GE218) hb); clear BK218; clear HB; have BK218 := n0_; have HB := n1_; clear n0_ n1_; (try clear hb); (try clear hb2); (try clear hk); (try clear hi)) | ((with_reducible refine gate_callee (f := 17) rfl ?_); refine goesL_ (some 12) rfl rfl Tryd.func17 (by kernel_rfl) rfl #[.string t219, .string (⟨#[32]⟩ : ByteArray)] rfl (zM) ?_; (with_reducible refine (strings_Split.calls k t219 (⟨#[32]⟩ : ByteArray) t220 _ A3.out).mono ?_); rintro e w64 ⟨v221, rfl, ho0, hb⟩; refine ⟨_, rfl, ?_⟩; have n0_ := zA (Kd.R_lower ho0 (below_size (zW1 HB GE218))); have n1_ := zA (blk_below (g := gb218) (o := .cells #[.int .i64 0, .string (⟨#[]⟩ : ByteArray), .int .i64 0, .int .i64 0, .int .i64 0] 26 (0, 0)) (zB BK218) hb); have n2_ := zA (below_step (zW1 HB GE218) hb); clear BK218; clear HB; have HO222 := n0_; have BK218 := n1_; have HB := n2_; clear n0_ n1_ n2_; (try clear hb); (try clear hb2); (try clear hk); (try clear hi); (try clear ho0); obtain ⟨Ao65, co65, eo65⟩ := Kd.R_slice HO222.out; subst eo65))
             have n0_ := zA (Kd.R_drew HO222.out); have n1_ := zA (blk_drew BK218.out); have n2_ := zA (below_drew1 HB.out); clear HO222; clear BK218; clear HB; have HO222 := n0_; have BK218 := n1_; have HB := n2_; clear n0_ n1_ n2_; have p223 : 0 ≤ (0 : Int) := (by omega); have q223 : 0 < (t220.length : Int) := of_decide_eq_true (by first | (with_reducible assumption) | assumption)
             obtain ⟨ad223, e223, hx223_0⟩ := Kd.at_string (Kd.R_reads' HO222.out).2.2 0 p223 q223
             cases e223
             have qi223 : (0 < t220.length) = True := eq_true (by omega)
             (try rw [show ((0 : Int)).toNat = 0 from rfl] at hx223_0)
             (try rw [Addr.add_zero'] at hx223_0)
             replace p223 := eq_true p223
             replace q223 := eq_true q223
             have p224 : 0 ≤ (3 : Int) := (by omega); have q224 : 3 < (t220.length : Int) := of_decide_eq_true (by first | (with_reducible assumption) | assumption)
             obtain ⟨ad224, e224, hx224_0⟩ := Kd.at_string (Kd.R_reads' HO222.out).2.2 3 p224 q224
             obtain rfl : ad223 = ad224 := (by injection e224)
             (try simp only [show (3 : Int).toNat = 3 from rfl, Nat.reduceMul, Nat.reduceEqDiff, Go.Addr.add, ↓reduceIte] at hx224_0)
             have qi224 : (3 < t220.length) = True := eq_true (by omega)
             (try rw [show ((3 : Int)).toNat = 3 from rfl] at hx224_0)
             replace p224 := eq_true p224
             replace q224 := eq_true q224
             have p225 : 0 ≤ (5 : Int) := (by omega); have q225 : 5 < (t220.length : Int) := of_decide_eq_true (by first | (with_reducible assumption) | assumption)
             obtain ⟨ad225, e225, hx225_0⟩ := Kd.at_string (Kd.R_reads' HO222.out).2.2 5 p225 q225
             obtain rfl : ad223 = ad225 := (by injection e225)
             (try simp only [show (5 : Int).toNat = 5 from rfl, Nat.reduceMul, Nat.reduceEqDiff, Go.Addr.add, ↓reduceIte] at hx225_0)
             have qi225 : (5 < t220.length) = True := eq_true (by omega)
             (try rw [show ((5 : Int)).toNat = 5 from rfl] at hx225_0)
             replace p225 := eq_true p225
             replace q225 := eq_true q225
             have p226 : 0 ≤ (7 : Int) := (by omega); have q226 : 7 < (t220.length : Int) := of_decide_eq_true (by first | (with_reducible assumption) | assumption)
             obtain ⟨ad226, e226, hx226_0⟩ := Kd.at_string (Kd.R_reads' HO222.out).2.2 7 p226 q226
             obtain rfl : ad223 = ad226 := (by injection e226)
             (try simp only [show (7 : Int).toNat = 7 from rfl, Nat.reduceMul, Nat.reduceEqDiff, Go.Addr.add, ↓reduceIte] at hx226_0)
             have qi226 : (7 < t220.length) = True := eq_true (by omega)
             (try rw [show ((7 : Int)).toNat = 7 from rfl] at hx226_0)
             replace p226 := eq_true p226
             replace q226 := eq_true q226
             refine start_ (n := 19) (S := fun w' => w'.cell? ad223 = some (.string (rdOf ByteArray.empty t220 0)) ∧ w'.cell? ⟨ad223.block, ad223.off + 3, none⟩ = some (.string (rdOf ByteArray.empty t220 3)) ∧ w'.cell? ⟨ad223.block, ad223.off + 5, none⟩ = some (.string (rdOf ByteArray.empty t220 5)) ∧ w'.cell? ⟨ad223.block, ad223.off + 7, none⟩ = some (.string (rdOf ByteArray.empty t220 7))) (ds := []) #[false, false, false, false, false, false, false, false, false, false, false, false, false, false, false, false, false, false, false] (by kernel_rfl) rfl rfl ⟨hx223_0, hx224_0, hx225_0, hx226_0⟩ (fun hHeld => ?_); refine with_tabW impl_ParseShade.tab4 impl_ParseShade.bits4 (fun HT_ HW_ => ?_)
             generalize w64.drew = w66 at HO222 BK218 HB hx223_0 hx224_0 hx225_0 hx226_0 hHeld ⊢
             refine pure_ (i := 0) (N := some 18) (v := ?_) (a' := ?_) #[true, false, false, false, false, false, false, false, false, false, false, false, false, false, false, false, false, false, false] rfl rfl (any_of HT_.out (by kernel_rfl)) (fun _ _ _ h => h) (Or.inl ⟨by rfl, ?_⟩) ?_ ?_
             rotate_left
             ·intro w'
              go_simp
              first
               | with_reducible rfl
               | (rw [if_neg (by simp only [ByteArray.size_append, zl12_0, zl12_1, ByteArray.size_extract] at *; omega)])
             rotate_left
             ·simp only [Act.put, List.setIfInBounds_toArray, List.set_cons_zero, List.set_cons_succ, i64_w, i32_w]
              rfl
             refine pure_ (i := 1) (N := some 19) (v := ?_) (a' := ?_) #[true, true, false, false, false, false, false, false, false, false, false, false, false, false, false, false, false, false, false] rfl rfl (any_of HT_.out (by kernel_rfl)) (fun _ _ _ h => h) (Or.inl ⟨by rfl, ?_⟩) ?_ ?_
             rotate_left
             ·intro w'
              go_simp
              first
               | with_reducible rfl
               | (rw [if_neg (by simp only [ByteArray.size_append, zl12_0, zl12_1, ByteArray.size_extract] at *; omega)])
             rotate_left
             ·simp only [Act.put, List.setIfInBounds_toArray, List.set_cons_zero, List.set_cons_succ, i64_w, i32_w]
              rfl
             refine pure_ (i := 3) (N := some 21) (v := ?_) (a' := ?_) #[true, true, false, true, false, false, false, false, false, false, false, false, false, false, false, false, false, false, false] rfl rfl (any_of HT_.out (by kernel_rfl)) (fun _ _ _ h => h) (Or.inl ⟨by rfl, ?_⟩) ?_ ?_
             rotate_left
             ·intro w'
              go_simp
              first
               | with_reducible rfl
               | (rw [if_neg (by simp only [ByteArray.size_append, zl12_0, zl12_1, ByteArray.size_extract] at *; omega)])
             rotate_left
             ·simp only [Act.put, List.setIfInBounds_toArray, List.set_cons_zero, List.set_cons_succ, i64_w, i32_w]
              rfl
             refine pure_ (i := 4) (N := some 22) (v := ?_) (a' := ?_) #[true, true, false, true, true, false, false, false, false, false, false, false, false, false, false, false, false, false, false] rfl rfl (any_of HT_.out (by kernel_rfl)) (fun _ _ _ h => h) (Or.inl ⟨by rfl, ?_⟩) ?_ ?_
             rotate_left
             ·intro w'
              go_simp
              first
               | with_reducible rfl
               | (rw [if_neg (by simp only [ByteArray.size_append, zl12_0, zl12_1, ByteArray.size_extract] at *; omega)])
             rotate_left
             ·simp only [Act.put, List.setIfInBounds_toArray, List.set_cons_zero, List.set_cons_succ, i64_w, i32_w]
              rfl
             refine pure_ (i := 6) (N := some 24) (v := ?_) (a' := ?_) #[true, true, false, true, true, false, true, false, false, false, false, false, false, false, false, false, false, false, false] rfl rfl (any_of HT_.out (by kernel_rfl)) (fun _ _ _ h => h) (Or.inl ⟨by rfl, ?_⟩) ?_ ?_
             rotate_left
             ·intro w'
              go_simp
              first
               | with_reducible rfl
               | (rw [if_neg (by simp only [ByteArray.size_append, zl12_0, zl12_1, ByteArray.size_extract] at *; omega)])
             rotate_left
             ·simp only [Act.put, List.setIfInBounds_toArray, List.set_cons_zero, List.set_cons_succ, i64_w, i32_w]
              rfl
             refine pure_ (i := 7) (N := some 25) (v := ?_) (a' := ?_) #[true, true, false, true, true, false, true, true, false, false, false, false, false, false, false, false, false, false, false] rfl rfl (any_of HT_.out (by kernel_rfl)) (fun _ _ _ h => h) (Or.inl ⟨by rfl, ?_⟩) ?_ ?_
             rotate_left
             ·intro w'
              go_simp
              first
               | with_reducible rfl
               | (rw [if_neg (by simp only [ByteArray.size_append, zl12_0, zl12_1, ByteArray.size_extract] at *; omega)])
             rotate_left
             ·simp only [Act.put, List.setIfInBounds_toArray, List.set_cons_zero, List.set_cons_succ, i64_w, i32_w]
              rfl
             refine pure_ (i := 9) (N := some 27) (v := ?_) (a' := ?_) #[true, true, false, true, true, false, true, true, false, true, false, false, false, false, false, false, false, false, false] rfl rfl (any_of HT_.out (by kernel_rfl)) (fun _ _ _ h => h) (Or.inl ⟨by rfl, ?_⟩) ?_ ?_
             rotate_left
             ·intro w'
              go_simp
              first
               | with_reducible rfl
               | (rw [if_neg (by simp only [ByteArray.size_append, zl12_0, zl12_1, ByteArray.size_extract] at *; omega)])
             rotate_left
             ·simp only [Act.put, List.setIfInBounds_toArray, List.set_cons_zero, List.set_cons_succ, i64_w, i32_w]
              rfl
             refine pure_ (i := 10) (N := some 28) (v := ?_) (a' := ?_) #[true, true, false, true, true, false, true, true, false, true, true, false, false, false, false, false, false, false, false] rfl rfl (any_of HT_.out (by kernel_rfl)) (fun _ _ _ h => h) (Or.inl ⟨by rfl, ?_⟩) ?_ ?_
             rotate_left
             ·intro w'
              go_simp
              first
               | with_reducible rfl
               | (rw [if_neg (by simp only [ByteArray.size_append, zl12_0, zl12_1, ByteArray.size_extract] at *; omega)])
             rotate_left
             ·simp only [Act.put, List.setIfInBounds_toArray, List.set_cons_zero, List.set_cons_succ, i64_w, i32_w]
              rfl
             refine take_ (i := 2) (N := some 20) (v := ?_) (a' := ?_) #[true, true, true, true, true, false, true, true, false, true, true, false, false, false, false, false, false, false, false] rfl rfl (take_ofW HT_.out HW_.out (by kernel_rfl)) (fun _ _ _ h => h) (Or.inl ⟨by rfl, ?_⟩) hHeld ?_ ?_
             rotate_left
             ·rintro w' ⟨s0, s1, s2, s3⟩
              go_simp
              with_reducible rfl
             rotate_left
             ·simp only [Act.put, List.setIfInBounds_toArray, List.set_cons_zero, List.set_cons_succ, i64_w, i32_w]
              rfl
             refine take_ (i := 5) (N := some 23) (v := ?_) (a' := ?_) #[true, true, true, true, true, true, true, true, false, true, true, false, false, false, false, false, false, false, false] rfl rfl (take_ofW HT_.out HW_.out (by kernel_rfl)) (fun _ _ _ h => h) (Or.inl ⟨by rfl, ?_⟩) hHeld ?_ ?_
             rotate_left
             ·rintro w' ⟨s0, s1, s2, s3⟩
              go_simp
              with_reducible rfl
             rotate_left
             ·simp only [Act.put, List.setIfInBounds_toArray, List.set_cons_zero, List.set_cons_succ, i64_w, i32_w]
              rfl
             refine take_ (i := 8) (N := some 26) (v := ?_) (a' := ?_) #[true, true, true, true, true, true, true, true, true, true, true, false, false, false, false, false, false, false, false] rfl rfl (take_ofW HT_.out HW_.out (by kernel_rfl)) (fun _ _ _ h => h) (Or.inl ⟨by rfl, ?_⟩) hHeld ?_ ?_
             rotate_left
             ·rintro w' ⟨s0, s1, s2, s3⟩
              go_simp
              with_reducible rfl
             rotate_left
             ·simp only [Act.put, List.setIfInBounds_toArray, List.set_cons_zero, List.set_cons_succ, i64_w, i32_w]
              rfl
             refine take_ (i := 11) (N := some 29) (v := ?_) (a' := ?_) #[true, true, true, true, true, true, true, true, true, true, true, true, false, false, false, false, false, false, false] rfl rfl (take_ofW HT_.out HW_.out (by kernel_rfl)) (fun _ _ _ h => h) (Or.inl ⟨by rfl, ?_⟩) hHeld ?_ ?_
             rotate_left
             ·rintro w' ⟨s0, s1, s2, s3⟩
              go_simp
              with_reducible rfl
             rotate_left
             ·simp only [Act.put, List.setIfInBounds_toArray, List.set_cons_zero, List.set_cons_succ, i64_w, i32_w]
              rfl
             refine one_ (i := 12) (N := some 30) #[true, true, true, true, true, true, true, true, true, true, true, true, true, false, false, false, false, false, false] rfl rfl (one_of HT_.out (by kernel_rfl)) (by decide) (fun K hK => ?_)
             refine Kd.R_lit_step Kd.string _ 9 ?hg (N := 30) ?hd (xs := ([rdOf ByteArray.empty t220 0, rdOf ByteArray.empty t220 3, rdOf ByteArray.empty t220 5, rdOf ByteArray.empty t220 7] : List ByteArray)) (inner := [.string (rdOf ByteArray.empty t220 0), .string (rdOf ByteArray.empty t220 3), .string (rdOf ByteArray.empty t220 5), .string (rdOf ByteArray.empty t220 7)]) (ok := fun _ => True) (okp := fun _ => True) ?hr ?hp (fun _ hk => hk) trivial (Below.refl _ _) (Nat.le_refl _) (by simp) ?_; (case hd => rfl); (case hg => rfl); (case hr => first | (go_simp; done) | (go_simp; rfl)); (case hp => exact (Reps.one (show Kd.M Kd.string _ _ _ (rdOf ByteArray.empty t220 0) [.string (rdOf ByteArray.empty t220 0)] from rfl) (Reps.one (show Kd.M Kd.string _ _ _ (rdOf ByteArray.empty t220 3) [.string (rdOf ByteArray.empty t220 3)] from rfl) (Reps.one (show Kd.M Kd.string _ _ _ (rdOf ByteArray.empty t220 5) [.string (rdOf ByteArray.empty t220 5)] from rfl) (Reps.one (show Kd.M Kd.string _ _ _ (rdOf ByteArray.empty t220 7) [.string (rdOf ByteArray.empty t220 7)] from rfl) (Reps.none _ _))))))
             intro v228 w67 ho68 hb hg_ hnew_
             have HS0_ := (hb.cell (World.block_lt_of_cell? _ _ (hHeld.1))).trans (hHeld.1); have HS1_ := (hb.cell (World.block_lt_of_cell? _ _ (hHeld.2.1))).trans (hHeld.2.1); have HS2_ := (hb.cell (World.block_lt_of_cell? _ _ (hHeld.2.2.1))).trans (hHeld.2.2.1); have HS3_ := (hb.cell (World.block_lt_of_cell? _ _ (hHeld.2.2.2))).trans (hHeld.2.2.2); clear hg_ hnew_
             (first | rw [← Ny227.out] at ho68 | (simp only [Int.reduceToNat] at ho68; rw [← Ny227.out] at ho68))
             have n0_ := zA (Kd.R_elder' (zR HO222) (Kd.R_base ho68) hb); have n1_ := zA (Kd.R_lower (Kd.R_new' ho68 (Kd.R_lt (zR HO222))) (below_size (zW1 HB GE218))); have n2_ := zA (blk_below (g := gb218) (o := .cells #[.int .i64 0, .string (⟨#[]⟩ : ByteArray), .int .i64 0, .int .i64 0, .int .i64 0] 26 (0, 0)) (zB BK218) hb); have n3_ := zA (below_step (zW1 HB GE218) hb); clear HO222; clear BK218; clear HB; have HO222 := n0_; have HO229 := n1_; have BK218 := n2_; have HB := n3_; clear n0_ n1_ n2_ n3_; clear hb ho68
             obtain ⟨Ao69, co69, eo69⟩ := Kd.R_slice HO229.out
             (first | subst eo69 | (injection eo69 with f1_ f2_ f3_; have f4_ := f1_.symm; have f5_ := f3_.symm; clear f1_ f2_ f3_; subst f4_; subst f5_))
             refine hK.out _ _ ⟨HS0_, HS1_, HS2_, HS3_⟩ (fun hHeld => ?_)
             clear hK K
             refine norm_ (a' := ?_) ?_ ?_
             rotate_left
             ·show Act.put _ (some 30) _ = _
              simp only [Act.put, List.setIfInBounds_toArray, List.set_cons_zero, List.set_cons_succ, i64_w, i32_w]
              rfl
             refine one_ (i := 13) (N := some 31) #[true, true, true, true, true, true, true, true, true, true, true, true, true, true, false, false, false, false, false] rfl rfl (one_of HT_.out (by kernel_rfl)) (by decide) (fun K hK => ?_)
             refine goes_ Tryd.func19 (by kernel_rfl) rfl #[.slice Ao69 y227.length co69] (by rfl) rfl rfl (zM) ?_
             with_reducible refine (impl_parseInts.calls k _ _ y227 t230 true _ ?side1 ?side2 A9.out (TT_below HT.out (by repeat (first | (with_reducible first | exact HB.out | apply below_alloc | apply pw_below_drewN | apply below_drew1) | exact HB.out | exact Below.refl _ _)))).mono ?_
             (case side1 => repeat (first | exact (Kd.R_reads' HO229.out).2.2 | (with_reducible refine Kd.C_alloc ?_ _) | (with_reducible refine Kd.C_drewN ?_ _) | (with_reducible refine Kd.C_drew ?_)))
             (case side2 => exact (Kd.R_reads' HO229.out).2.1)
             rintro e w70 ⟨v232, rfl, ho0, hb⟩
             have HS0_ := (hb.cell (World.block_lt_of_cell? _ _ (hHeld.1))).trans (hHeld.1); have HS1_ := (hb.cell (World.block_lt_of_cell? _ _ (hHeld.2.1))).trans (hHeld.2.1); have HS2_ := (hb.cell (World.block_lt_of_cell? _ _ (hHeld.2.2.1))).trans (hHeld.2.2.1); have HS3_ := (hb.cell (World.block_lt_of_cell? _ _ (hHeld.2.2.2))).trans (hHeld.2.2.2)
             refine ⟨_, rfl, ?_⟩
             have n0_ := zA (Kd.R_below (zR HO222) hb); have n1_ := zA (Kd.R_below (zR HO229) hb); have n2_ := zA (Kd.R_lower ho0 (below_size (zW1 HB GE218))); have n3_ := zA (blk_below (g := gb218) (o := .cells #[.int .i64 0, .string (⟨#[]⟩ : ByteArray), .int .i64 0, .int .i64 0, .int .i64 0] 26 (0, 0)) (zB BK218) hb); have n4_ := zA (below_step (zW1 HB GE218) hb); clear HO222; clear HO229; clear BK218; clear HB; have HO222 := n0_; have HO229 := n1_; have HO233 := n2_; have BK218 := n3_; have HB := n4_; clear n0_ n1_ n2_ n3_ n4_; (try clear hb); (try clear hb2); (try clear hk); (try clear hi); (try clear ho0)
             refine hK.out _ _ ⟨HS0_, HS1_, HS2_, HS3_⟩ (fun hHeld => ?_)
             clear hK K
             refine norm_ (a' := ?_) ?_ ?_
             rotate_left
             ·show Act.put _ (some 31) _ = _
              simp only [Act.put, List.setIfInBounds_toArray, List.set_cons_zero, List.set_cons_succ, i64_w, i32_w]
              rfl
             refine pure_ (i := 14) (N := some 17) (v := ?_) (a' := ?_) #[true, true, true, true, true, true, true, true, true, true, true, true, true, true, true, false, false, false, false] rfl rfl (any_of HT_.out (by kernel_rfl)) (fun _ _ _ h => h) (Or.inl ⟨by rfl, ?_⟩) ?_ ?_
             rotate_left
             ·intro w'
              go_simp
              first
               | with_reducible rfl
               | (rw [if_neg (by simp only [ByteArray.size_append, zl12_0, zl12_1, ByteArray.size_extract] at *; omega)])
             rotate_left
             ·simp only [Act.put, List.setIfInBounds_toArray, List.set_cons_zero, List.set_cons_succ, i64_w, i32_w]
              rfl
             refine pure_ (i := 15) (N := some 32) (v := ?_) (a' := ?_) #[true, true, true, true, true, true, true, true, true, true, true, true, true, true, true, true, false, false, false] rfl rfl (any_of HT_.out (by kernel_rfl)) (fun _ _ _ h => h) (Or.inl ⟨by rfl, ?_⟩) ?_ ?_
             rotate_left
             ·intro w'
              go_simp
              first
               | with_reducible rfl
               | (rw [if_neg (by simp only [ByteArray.size_append, zl12_0, zl12_1, ByteArray.size_extract] at *; omega)])
             rotate_left
             ·simp only [Act.put, List.setIfInBounds_toArray, List.set_cons_zero, List.set_cons_succ, i64_w, i32_w]
              rfl
             refine pure_ (i := 16) (N := some 33) (v := ?_) (a' := ?_) #[true, true, true, true, true, true, true, true, true, true, true, true, true, true, true, true, true, false, false] rfl rfl (any_of HT_.out (by kernel_rfl)) (fun _ _ _ h => h) (Or.inl ⟨by rfl, ?_⟩) ?_ ?_
             rotate_left
             ·intro w'
              go_simp
              first
               | with_reducible rfl
               | (rw [if_neg (by simp only [ByteArray.size_append, zl12_0, zl12_1, ByteArray.size_extract] at *; omega)])
             rotate_left
             ·simp only [Act.put, List.setIfInBounds_toArray, List.set_cons_zero, List.set_cons_succ, i64_w, i32_w]
              rfl
             refine pure_ (i := 17) (N := some 5) (v := ?_) (a' := ?_) #[true, true, true, true, true, true, true, true, true, true, true, true, true, true, true, true, true, true, false] rfl rfl (any_of HT_.out (by kernel_rfl)) (fun _ _ _ h => h) (Or.inl ⟨by rfl, ?_⟩) ?_ ?_
             rotate_left
             ·intro w'
              go_simp
              first
               | with_reducible rfl
               | (rw [if_neg (by simp only [ByteArray.size_append, zl12_0, zl12_1, ByteArray.size_extract] at *; omega)])
             rotate_left
             ·simp only [Act.put, List.setIfInBounds_toArray, List.set_cons_zero, List.set_cons_succ, i64_w, i32_w]
              rfl
             refine pure_ (i := 18) (N := some 6) (v := ?_) (a' := ?_) #[true, true, true, true, true, true, true, true, true, true, true, true, true, true, true, true, true, true, true] rfl rfl (any_of HT_.out (by kernel_rfl)) (fun _ _ _ h => h) (Or.inl ⟨by rfl, ?_⟩) ?_ ?_
             rotate_left
             ·intro w'
              go_simp
              first
               | with_reducible rfl
               | (rw [if_neg (by simp only [ByteArray.size_append, zl12_0, zl12_1, ByteArray.size_extract] at *; omega)])
             rotate_left
             ·simp only [Act.put, List.setIfInBounds_toArray, List.set_cons_zero, List.set_cons_succ, i64_w, i32_w]
              rfl
             refine done_ (done_of HT_.out (by kernel_rfl)) ?_
             try go_wp2
             have n0_ := zA (Kd.R_drew HO222.out); have n1_ := zA (Kd.R_drew HO229.out); have n2_ := zA (Kd.R_drew HO233.out); have n3_ := zA (blk_drew BK218.out); have n4_ := zA (below_drew1 HB.out); clear HO222; clear HO229; clear HO233; clear BK218; clear HB; have HO222 := n0_; have HO229 := n1_; have HO233 := n2_; have BK218 := n3_; have HB := n4_; clear n0_ n1_ n2_ n3_ n4_
             obtain ⟨Ao72, co72, eo72⟩ := Kd.R_slice HO233.out
             (first | subst eo72 | (injection eo72 with f1_ f2_ f3_; have f4_ := f1_.symm; have f5_ := f3_.symm; clear f1_ f2_ f3_; subst f4_; subst f5_))
             have p234 : 0 ≤ (0 : Int) := (by omega); have q234 : 0 < (t230.length : Int) := of_decide_eq_true (by first | (with_reducible assumption) | assumption)
             obtain ⟨ad234, e234, hx234_0⟩ := Kd.at_int (Kd.R_reads' HO233.out).2.2 0 p234 q234
             cases e234
             have qi234 : (0 < t230.length) = True := eq_true (by omega)
             (try rw [show ((0 : Int)).toNat = 0 from rfl] at hx234_0)
             (try rw [Addr.add_zero'] at hx234_0)
             replace p234 := eq_true p234
             replace q234 := eq_true q234
             have p235 : 0 ≤ (1 : Int) := (by omega); have q235 : 1 < (t220.length : Int) := of_decide_eq_true (by first | (with_reducible assumption) | assumption)
             obtain ⟨ad235, e235, hx235_0⟩ := Kd.at_string (Kd.R_reads' HO222.out).2.2 1 p235 q235
             obtain rfl : ad223 = ad235 := (by injection e235)
             (try simp only [show (1 : Int).toNat = 1 from rfl, Nat.reduceMul, Nat.reduceEqDiff, Go.Addr.add, ↓reduceIte] at hx235_0)
             have qi235 : (1 < t220.length) = True := eq_true (by omega)
             (try rw [show ((1 : Int)).toNat = 1 from rfl] at hx235_0)
             replace p235 := eq_true p235
             replace q235 := eq_true q235
             have p236 : 0 ≤ (1 : Int) := (by omega); have q236 : 1 < (t230.length : Int) := of_decide_eq_true (by first | (with_reducible assumption) | assumption)
             obtain ⟨ad236, e236, hx236_0⟩ := Kd.at_int (Kd.R_reads' HO233.out).2.2 1 p236 q236
             obtain rfl : ad234 = ad236 := (by injection e236)
             (try simp only [show (1 : Int).toNat = 1 from rfl, Nat.reduceMul, Nat.reduceEqDiff, Go.Addr.add, ↓reduceIte] at hx236_0)
             have qi236 : (1 < t230.length) = True := eq_true (by omega)
             (try rw [show ((1 : Int)).toNat = 1 from rfl] at hx236_0)
             replace p236 := eq_true p236
             replace q236 := eq_true q236
             have p237 : 0 ≤ (2 : Int) := (by omega); have q237 : 2 < (t230.length : Int) := of_decide_eq_true (by first | (with_reducible assumption) | assumption)
             obtain ⟨ad237, e237, hx237_0⟩ := Kd.at_int (Kd.R_reads' HO233.out).2.2 2 p237 q237
             obtain rfl : ad234 = ad237 := (by injection e237)
             (try simp only [show (2 : Int).toNat = 2 from rfl, Nat.reduceMul, Nat.reduceEqDiff, Go.Addr.add, ↓reduceIte] at hx237_0)
             have qi237 : (2 < t230.length) = True := eq_true (by omega)
             (try rw [show ((2 : Int)).toNat = 2 from rfl] at hx237_0)
             replace p237 := eq_true p237
             replace q237 := eq_true q237
             have p238 : 0 ≤ (3 : Int) := (by omega); have q238 : 3 < (t230.length : Int) := of_decide_eq_true (by first | (with_reducible assumption) | assumption)
             obtain ⟨ad238, e238, hx238_0⟩ := Kd.at_int (Kd.R_reads' HO233.out).2.2 3 p238 q238
             obtain rfl : ad234 = ad238 := (by injection e238)
             (try simp only [show (3 : Int).toNat = 3 from rfl, Nat.reduceMul, Nat.reduceEqDiff, Go.Addr.add, ↓reduceIte] at hx238_0)
             have qi238 : (3 < t230.length) = True := eq_true (by omega)
             (try rw [show ((3 : Int)).toNat = 3 from rfl] at hx238_0)
             replace p238 := eq_true p238
             replace q238 := eq_true q238
             refine start_ (n := 18) (S := fun w' => w'.cell? ad234 = some (.int .i64 (rd t230 0)) ∧ w'.cell? ⟨ad223.block, ad223.off + 1, none⟩ = some (.string (rdOf ByteArray.empty t220 1)) ∧ w'.cell? ⟨ad234.block, ad234.off + 1, none⟩ = some (.int .i64 (rd t230 1)) ∧ w'.cell? ⟨ad234.block, ad234.off + 2, none⟩ = some (.int .i64 (rd t230 2)) ∧ w'.cell? ⟨ad234.block, ad234.off + 3, none⟩ = some (.int .i64 (rd t230 3))) (ds := []) #[false, false, false, false, false, false, false, false, false, false, false, false, false, false, false, false, false, false] (by kernel_rfl) rfl rfl ⟨hx234_0, hx235_0, hx236_0, hx237_0, hx238_0⟩ (fun hHeld => ?_); refine with_tabW impl_ParseShade.tab7 impl_ParseShade.bits7 (fun HT_ HW_ => ?_)
             generalize w70.drew = w71 at HO222 HO229 HO233 BK218 HB hx234_0 hx235_0 hx236_0 hx237_0 hx238_0 hHeld ⊢
             refine pure_ (i := 0) (N := some 37) (v := ?_) (a' := ?_) #[true, false, false, false, false, false, false, false, false, false, false, false, false, false, false, false, false, false] rfl rfl (any_of HT_.out (by kernel_rfl)) (fun _ _ _ h => h) (Or.inl ⟨by rfl, ?_⟩) ?_ ?_
             rotate_left
             ·intro w'
              go_simp
              first
               | with_reducible rfl
               | (rw [if_neg (by simp only [ByteArray.size_append, zl12_0, zl12_1, ByteArray.size_extract] at *; omega)])
             rotate_left
             ·simp only [Act.put, List.setIfInBounds_toArray, List.set_cons_zero, List.set_cons_succ, i64_w, i32_w]
              rfl
             refine pure_ (i := 1) (N := some 38) (v := ?_) (a' := ?_) #[true, true, false, false, false, false, false, false, false, false, false, false, false, false, false, false, false, false] rfl rfl (any_of HT_.out (by kernel_rfl)) (fun _ _ _ h => h) (Or.inl ⟨by rfl, ?_⟩) ?_ ?_
             rotate_left
             ·intro w'
              go_simp
              first
               | with_reducible rfl
               | (rw [if_neg (by simp only [ByteArray.size_append, zl12_0, zl12_1, ByteArray.size_extract] at *; omega)])
             rotate_left
             ·simp only [Act.put, List.setIfInBounds_toArray, List.set_cons_zero, List.set_cons_succ, i64_w, i32_w]
              rfl
             refine pure_ (i := 3) (N := some 40) (v := ?_) (a' := ?_) #[true, true, false, true, false, false, false, false, false, false, false, false, false, false, false, false, false, false] rfl rfl (any_of HT_.out (by kernel_rfl)) (fun _ _ _ h => h) (Or.inl ⟨by rfl, ?_⟩) ?_ ?_
             rotate_left
             ·intro w'
              go_simp
              first
               | with_reducible rfl
               | (rw [if_neg (by simp only [ByteArray.size_append, zl12_0, zl12_1, ByteArray.size_extract] at *; omega)])
             rotate_left
             ·simp only [Act.put, List.setIfInBounds_toArray, List.set_cons_zero, List.set_cons_succ, i64_w, i32_w]
              rfl
             refine pure_ (i := 4) (N := some 41) (v := ?_) (a' := ?_) #[true, true, false, true, true, false, false, false, false, false, false, false, false, false, false, false, false, false] rfl rfl (any_of HT_.out (by kernel_rfl)) (fun _ _ _ h => h) (Or.inl ⟨by rfl, ?_⟩) ?_ ?_
             rotate_left
             ·intro w'
              go_simp
              first
               | with_reducible rfl
               | (rw [if_neg (by simp only [ByteArray.size_append, zl12_0, zl12_1, ByteArray.size_extract] at *; omega)])
             rotate_left
             ·simp only [Act.put, List.setIfInBounds_toArray, List.set_cons_zero, List.set_cons_succ, i64_w, i32_w]
              rfl
             refine pure_ (i := 6) (N := some 43) (v := ?_) (a' := ?_) #[true, true, false, true, true, false, true, false, false, false, false, false, false, false, false, false, false, false] rfl rfl (any_of HT_.out (by kernel_rfl)) (fun _ _ _ h => h) (Or.inl ⟨by rfl, ?_⟩) ?_ ?_
             rotate_left
             ·intro w'
              go_simp
              first
               | with_reducible rfl
               | (rw [if_neg (by simp only [ByteArray.size_append, zl12_0, zl12_1, ByteArray.size_extract] at *; omega)])
             rotate_left
             ·simp only [Act.put, List.setIfInBounds_toArray, List.set_cons_zero, List.set_cons_succ, i64_w, i32_w]
              rfl
             refine pure_ (i := 7) (N := some 44) (v := ?_) (a' := ?_) #[true, true, false, true, true, false, true, true, false, false, false, false, false, false, false, false, false, false] rfl rfl (any_of HT_.out (by kernel_rfl)) (fun _ _ _ h => h) (Or.inl ⟨by rfl, ?_⟩) ?_ ?_
             rotate_left
             ·intro w'
              go_simp
              first
               | with_reducible rfl
               | (rw [if_neg (by simp only [ByteArray.size_append, zl12_0, zl12_1, ByteArray.size_extract] at *; omega)])
             rotate_left
             ·simp only [Act.put, List.setIfInBounds_toArray, List.set_cons_zero, List.set_cons_succ, i64_w, i32_w]
              rfl
             refine pure_ (i := 9) (N := some 46) (v := ?_) (a' := ?_) #[true, true, false, true, true, false, true, true, false, true, false, false, false, false, false, false, false, false] rfl rfl (any_of HT_.out (by kernel_rfl)) (fun _ _ _ h => h) (Or.inl ⟨by rfl, ?_⟩) ?_ ?_
             rotate_left
             ·intro w'
              go_simp
              first
               | with_reducible rfl
               | (rw [if_neg (by simp only [ByteArray.size_append, zl12_0, zl12_1, ByteArray.size_extract] at *; omega)])
             rotate_left
             ·simp only [Act.put, List.setIfInBounds_toArray, List.set_cons_zero, List.set_cons_succ, i64_w, i32_w]
              rfl
             refine pure_ (i := 10) (N := some 47) (v := ?_) (a' := ?_) #[true, true, false, true, true, false, true, true, false, true, true, false, false, false, false, false, false, false] rfl rfl (any_of HT_.out (by kernel_rfl)) (fun _ _ _ h => h) (Or.inl ⟨by rfl, ?_⟩) ?_ ?_
             rotate_left
             ·intro w'
              go_simp
              first
               | with_reducible rfl
               | (rw [if_neg (by simp only [ByteArray.size_append, zl12_0, zl12_1, ByteArray.size_extract] at *; omega)])
             rotate_left
             ·simp only [Act.put, List.setIfInBounds_toArray, List.set_cons_zero, List.set_cons_succ, i64_w, i32_w]
              rfl
             refine pure_ (i := 12) (N := some 49) (v := ?_) (a' := ?_) #[true, true, false, true, true, false, true, true, false, true, true, false, true, false, false, false, false, false] rfl rfl (any_of HT_.out (by kernel_rfl)) (fun _ _ _ h => h) (Or.inl ⟨by rfl, ?_⟩) ?_ ?_
             rotate_left
             ·intro w'
              go_simp
              first
               | with_reducible rfl
               | (rw [if_neg (by simp only [ByteArray.size_append, zl12_0, zl12_1, ByteArray.size_extract] at *; omega)])
             rotate_left
             ·simp only [Act.put, List.setIfInBounds_toArray, List.set_cons_zero, List.set_cons_succ, i64_w, i32_w]
              rfl
             refine pure_ (i := 13) (N := some 50) (v := ?_) (a' := ?_) #[true, true, false, true, true, false, true, true, false, true, true, false, true, true, false, false, false, false] rfl rfl (any_of HT_.out (by kernel_rfl)) (fun _ _ _ h => h) (Or.inl ⟨by rfl, ?_⟩) ?_ ?_
             rotate_left
             ·intro w'
              go_simp
              first
               | with_reducible rfl
               | (rw [if_neg (by simp only [ByteArray.size_append, zl12_0, zl12_1, ByteArray.size_extract] at *; omega)])
             rotate_left
             ·simp only [Act.put, List.setIfInBounds_toArray, List.set_cons_zero, List.set_cons_succ, i64_w, i32_w]
              rfl
             refine take_ (i := 2) (N := some 39) (v := ?_) (a' := ?_) #[true, true, true, true, true, false, true, true, false, true, true, false, true, true, false, false, false, false] rfl rfl (take_ofW HT_.out HW_.out (by kernel_rfl)) (fun _ _ _ h => h) (Or.inl ⟨by rfl, ?_⟩) hHeld ?_ ?_
             rotate_left
             ·rintro w' ⟨s0, s1, s2, s3, s4⟩
              go_simp
              with_reducible rfl
             rotate_left
             ·simp only [Act.put, List.setIfInBounds_toArray, List.set_cons_zero, List.set_cons_succ, i64_w, i32_w]
              rfl
             refine take_ (i := 5) (N := some 42) (v := ?_) (a' := ?_) #[true, true, true, true, true, true, true, true, false, true, true, false, true, true, false, false, false, false] rfl rfl (take_ofW HT_.out HW_.out (by kernel_rfl)) (fun _ _ _ h => h) (Or.inl ⟨by rfl, ?_⟩) hHeld ?_ ?_
             rotate_left
             ·rintro w' ⟨s0, s1, s2, s3, s4⟩
              go_simp
              with_reducible rfl
             rotate_left
             ·simp only [Act.put, List.setIfInBounds_toArray, List.set_cons_zero, List.set_cons_succ, i64_w, i32_w]
              rfl
             refine take_ (i := 8) (N := some 45) (v := ?_) (a' := ?_) #[true, true, true, true, true, true, true, true, true, true, true, false, true, true, false, false, false, false] rfl rfl (take_ofW HT_.out HW_.out (by kernel_rfl)) (fun _ _ _ h => h) (Or.inl ⟨by rfl, ?_⟩) hHeld ?_ ?_
             rotate_left
             ·rintro w' ⟨s0, s1, s2, s3, s4⟩
              go_simp
              with_reducible rfl
             rotate_left
             ·simp only [Act.put, List.setIfInBounds_toArray, List.set_cons_zero, List.set_cons_succ, i64_w, i32_w]
              rfl
             refine take_ (i := 11) (N := some 48) (v := ?_) (a' := ?_) #[true, true, true, true, true, true, true, true, true, true, true, true, true, true, false, false, false, false] rfl rfl (take_ofW HT_.out HW_.out (by kernel_rfl)) (fun _ _ _ h => h) (Or.inl ⟨by rfl, ?_⟩) hHeld ?_ ?_
             rotate_left
             ·rintro w' ⟨s0, s1, s2, s3, s4⟩
              go_simp
              with_reducible rfl
             rotate_left
             ·simp only [Act.put, List.setIfInBounds_toArray, List.set_cons_zero, List.set_cons_succ, i64_w, i32_w]
              rfl
             refine take_ (i := 14) (N := some 51) (v := ?_) (a' := ?_) #[true, true, true, true, true, true, true, true, true, true, true, true, true, true, true, false, false, false] rfl rfl (take_ofW HT_.out HW_.out (by kernel_rfl)) (fun _ _ _ h => h) (Or.inl ⟨by rfl, ?_⟩) hHeld ?_ ?_
             rotate_left
             ·rintro w' ⟨s0, s1, s2, s3, s4⟩
              go_simp
              with_reducible rfl
             rotate_left
             ·simp only [Act.put, List.setIfInBounds_toArray, List.set_cons_zero, List.set_cons_succ, i64_w, i32_w]
              rfl
             refine pure_ (i := 15) (N := some 52) (v := ?_) (a' := ?_) #[true, true, true, true, true, true, true, true, true, true, true, true, true, true, true, true, false, false] rfl rfl (any_of HT_.out (by kernel_rfl)) (fun _ _ _ h => h) (Or.inl ⟨by rfl, ?_⟩) ?_ ?_
             rotate_left
             ·intro w'
              go_simp
              first
               | with_reducible rfl
               | (rw [if_neg (by simp only [ByteArray.size_append, zl12_0, zl12_1, ByteArray.size_extract] at *; omega)])
             rotate_left
             ·simp only [Act.put, List.setIfInBounds_toArray, List.set_cons_zero, List.set_cons_succ, i64_w, i32_w]
              rfl
             refine one_ (i := 16) (N := some 7) #[true, true, true, true, true, true, true, true, true, true, true, true, true, true, true, true, true, false] rfl rfl (one_of HT_.out (by kernel_rfl)) (by decide) (fun K hK => ?_)
             refine box_step ?hg (N := 7) ?hd (cs := #[.int .i64 0, .string (⟨#[]⟩ : ByteArray), .int .i64 0, .int .i64 0, .int .i64 0]) (t := 26) ?hr ?_; (case hd => rfl); (case hg => rfl); (case hr => first | (go_simp; done) | (go_simp; rfl))
             intro gb239 hg w73 hbox hb
             have HS0_ := (hb.cell (World.block_lt_of_cell? _ _ (hHeld.1))).trans (hHeld.1); have HS1_ := (hb.cell (World.block_lt_of_cell? _ _ (hHeld.2.1))).trans (hHeld.2.1); have HS2_ := (hb.cell (World.block_lt_of_cell? _ _ (hHeld.2.2.1))).trans (hHeld.2.2.1); have HS3_ := (hb.cell (World.block_lt_of_cell? _ _ (hHeld.2.2.2.1))).trans (hHeld.2.2.2.1); have HS4_ := (hb.cell (World.block_lt_of_cell? _ _ (hHeld.2.2.2.2))).trans (hHeld.2.2.2.2); have n0_ := zA (Kd.R_below (zR HO222) hb); have n1_ := zA (Kd.R_below (zR HO229) hb); have n2_ := zA (Kd.R_below (zR HO233) hb); have n3_ := zA (blk_below (g := gb218) (o := .cells #[.int .i64 0, .string (⟨#[]⟩ : ByteArray), .int .i64 0, .int .i64 0, .int .i64 0] 26 (0, 0)) (zB BK218) hb); have n4_ := zA (below_step (zW1 HB GE218) hb); have n5_ := zA (hbox); have n6_ := zA ((by rw [hg]; exact (below_size (zW1 HB GE218)) : w.heap.size ≤ gb239)); have n7_ := zA ((by rw [hg]; exact (below_size (zW1 HB GE218)) : w.heap.size ≤ gb239)); have n8_ := zA ((by rw [hg]; exact Nat.ne_of_lt (blk_lt (g := gb218) (o := .cells #[.int .i64 0, .string (⟨#[]⟩ : ByteArray), .int .i64 0, .int .i64 0, .int .i64 0] 26 (0, 0)) (zB BK218)) : gb218 ≠ gb239)); have n9_ := zA ((by rw [hg]; exact Nat.ne_of_gt (blk_lt (g := gb218) (o := .cells #[.int .i64 0, .string (⟨#[]⟩ : ByteArray), .int .i64 0, .int .i64 0, .int .i64 0] 26 (0, 0)) (zB BK218)) : gb239 ≠ gb218)); clear HO222; clear HO229; clear HO233; clear BK218; clear HB; have HO222 := n0_; have HO229 := n1_; have HO233 := n2_; have BK218 := n3_; have HB := n4_; have BK239 := n5_; have GW239 := n6_; have GE239 := n7_; have NB218_239 := n8_; have NB239_218 := n9_; clear n0_ n1_ n2_ n3_ n4_ n5_ n6_ n7_ n8_ n9_; clear hb hbox hg
             refine hK.out _ _ ⟨HS0_, HS1_, HS2_, HS3_, HS4_⟩ (fun hHeld => ?_)
             clear hK K
             refine norm_ (a' := ?_) ?_ ?_
             rotate_left
             ·show Act.put _ (some 7) _ = _
              simp only [Act.put, List.setIfInBounds_toArray, List.set_cons_zero, List.set_cons_succ, i64_w, i32_w]
              rfl
             refine one_ (i := 17) (N := none) #[true, true, true, true, true, true, true, true, true, true, true, true, true, true, true, true, true, true] rfl rfl (one_of HT_.out (by kernel_rfl)) (by decide) (fun K hK => ?_)
             have hs74 : w73.cell? ⟨gb239, 0, none⟩ = some (.int .i64 0) := (blk_cell BK239.out 0).trans rfl; have hfs74 := blk_frozen BK239.out 0; have hns74_0 := NB218_239.out; have hms74_0 := NB239_218.out; have hs75 : w73.cell? ⟨gb239, 1, none⟩ = some (.string (⟨#[]⟩ : ByteArray)) := (blk_cell BK239.out 1).trans rfl; have hfs75 := blk_frozen BK239.out 1; have hns75_0 := NB218_239.out; have hms75_0 := NB239_218.out; have hs76 : w73.cell? ⟨gb239, 2, none⟩ = some (.int .i64 0) := (blk_cell BK239.out 2).trans rfl; have hfs76 := blk_frozen BK239.out 2; have hns76_0 := NB218_239.out; have hms76_0 := NB239_218.out; have hs77 : w73.cell? ⟨gb239, 3, none⟩ = some (.int .i64 0) := (blk_cell BK239.out 3).trans rfl; have hfs77 := blk_frozen BK239.out 3; have hns77_0 := NB218_239.out; have hms77_0 := NB239_218.out; have hs78 : w73.cell? ⟨gb239, 4, none⟩ = some (.int .i64 0) := (blk_cell BK239.out 4).trans rfl; have hfs78 := blk_frozen BK239.out 4; have hns78_0 := NB218_239.out; have hms78_0 := NB239_218.out
             refine skip_ (w1 := ?_) (by rfl) rfl ?_ ?_
             rotate_left
             ·go_simp
              rfl
             have nH_ad223 : ad223.block ≠ gb239 := Kd.own_blk (Kd.R_ne HO222.out BK239.out (by decide)); have nH_ad234 : ad234.block ≠ gb239 := Kd.own_blk (Kd.R_ne HO233.out BK239.out (by decide))
             have eH0_ := fun (W_ : World) (j_ : Nat) (u_ : Value) => cell_far (W := W_) (p := ⟨gb239, j_, none⟩) (a := ad234) nH_ad234 u_
             have eH1_ := fun (W_ : World) (j_ : Nat) (u_ : Value) => cell_far (W := W_) (p := ⟨gb239, j_, none⟩) (a := ⟨ad223.block, ad223.off + 1, none⟩) nH_ad223 u_
             have eH2_ := fun (W_ : World) (j_ : Nat) (u_ : Value) => cell_far (W := W_) (p := ⟨gb239, j_, none⟩) (a := ⟨ad234.block, ad234.off + 1, none⟩) nH_ad234 u_
             have eH3_ := fun (W_ : World) (j_ : Nat) (u_ : Value) => cell_far (W := W_) (p := ⟨gb239, j_, none⟩) (a := ⟨ad234.block, ad234.off + 2, none⟩) nH_ad234 u_
             have eH4_ := fun (W_ : World) (j_ : Nat) (u_ : Value) => cell_far (W := W_) (p := ⟨gb239, j_, none⟩) (a := ⟨ad234.block, ad234.off + 3, none⟩) nH_ad234 u_
             refine hK.out _ _ ⟨(eH0_ _ _ _).trans ((eH0_ _ _ _).trans ((eH0_ _ _ _).trans ((eH0_ _ _ _).trans ((eH0_ _ _ _).trans (hHeld.1))))), (eH1_ _ _ _).trans ((eH1_ _ _ _).trans ((eH1_ _ _ _).trans ((eH1_ _ _ _).trans ((eH1_ _ _ _).trans (hHeld.2.1))))), (eH2_ _ _ _).trans ((eH2_ _ _ _).trans ((eH2_ _ _ _).trans ((eH2_ _ _ _).trans ((eH2_ _ _ _).trans (hHeld.2.2.1))))), (eH3_ _ _ _).trans ((eH3_ _ _ _).trans ((eH3_ _ _ _).trans ((eH3_ _ _ _).trans ((eH3_ _ _ _).trans (hHeld.2.2.2.1))))), (eH4_ _ _ _).trans ((eH4_ _ _ _).trans ((eH4_ _ _ _).trans ((eH4_ _ _ _).trans ((eH4_ _ _ _).trans (hHeld.2.2.2.2)))))⟩ (fun hHeld => ?_)
             clear nH_ad223 nH_ad234 eH0_ eH1_ eH2_ eH3_ eH4_ hK K
             refine done_ (done_of HT_.out (by kernel_rfl)) ?_
             have hnb79 := NB239_218.out; have hnc79 := NB218_239.out; have hcz80_0 : w73.cell? ⟨gb239, 0, none⟩ = some (.int .i64 0) := (blk_cell BK239.out 0).trans rfl; have hcz80_1 : w73.cell? ⟨gb239, 1, none⟩ = some (.string (⟨#[]⟩ : ByteArray)) := (blk_cell BK239.out 1).trans rfl; have hcz80_2 : w73.cell? ⟨gb239, 2, none⟩ = some (.int .i64 0) := (blk_cell BK239.out 2).trans rfl; have hcz80_3 : w73.cell? ⟨gb239, 3, none⟩ = some (.int .i64 0) := (blk_cell BK239.out 3).trans rfl; have hcz80_4 : w73.cell? ⟨gb239, 4, none⟩ = some (.int .i64 0) := (blk_cell BK239.out 4).trans rfl; have hfz80_0 := blk_frozen BK239.out 0; have hfz80_1 := blk_frozen BK239.out 1; have hfz80_2 := blk_frozen BK239.out 2; have hfz80_3 := blk_frozen BK239.out 3; have hfz80_4 := blk_frozen BK239.out 4
             try go_wp2_with (first | ((with_reducible refine gate_callee (f := 20) rfl ?_); refine goesL_ (some 55) rfl rfl Tryd.func20 (by kernel_rfl) rfl #[.agg #[.int .i64 (rd t230 0), .string (rdOf ByteArray.empty t220 1), .int .i64 (rd t230 1), .int .i64 (rd t230 2), .int .i64 (rd t230 3)]] rfl (zM) ?_; (with_reducible refine (impl_ShadeText.calls (rd t230 0) (rdOf ByteArray.empty t220 1) (rd t230 1) (rd t230 2) (rd t230 3) t240 false _ A16.out (TT_below HT.out (by repeat (first | (with_reducible first | exact HB.out | apply below_alloc | apply pw_below_drewN | apply below_drew1 | refine below_set ?_ GE218.out | refine below_set ?_ GE239.out) | exact HB.out | exact Below.refl _ _)))).mono ?_); rintro e w81 ⟨rfl, hb⟩; refine ⟨_, rfl, ?_⟩; have n0_ := zA (Kd.R_below (by (with_reducible repeat (first | apply Kd.R_alloc | apply Kd.R_drewN | apply Kd.R_drew)); exact (Kd.R_mono (Kd.R_far (p := ⟨gb239, 4, none⟩) (Kd.R_far (p := ⟨gb239, 3, none⟩) (Kd.R_far (p := ⟨gb239, 2, none⟩) (Kd.R_far (p := ⟨gb239, 1, none⟩) (Kd.R_far (p := ⟨gb239, 0, none⟩) (Kd.R_types HO222.out BK239.out (by decide)) (fun _ hk => hk.2) (.int .i64 (rd t230 0))) (fun _ hk => hk.2) (.string (rdOf ByteArray.empty t220 1))) (fun _ hk => hk.2) (.int .i64 (rd t230 1))) (fun _ hk => hk.2) (.int .i64 (rd t230 2))) (fun _ hk => hk.2) (.int .i64 (rd t230 3))) (fun _ h_ => h_.1))) hb); have n1_ := zA (Kd.R_below (by (with_reducible repeat (first | apply Kd.R_alloc | apply Kd.R_drewN | apply Kd.R_drew)); exact (Kd.R_mono (Kd.R_far (p := ⟨gb239, 4, none⟩) (Kd.R_far (p := ⟨gb239, 3, none⟩) (Kd.R_far (p := ⟨gb239, 2, none⟩) (Kd.R_far (p := ⟨gb239, 1, none⟩) (Kd.R_far (p := ⟨gb239, 0, none⟩) (Kd.R_types HO229.out BK239.out (by decide)) (fun _ hk => hk.2) (.int .i64 (rd t230 0))) (fun _ hk => hk.2) (.string (rdOf ByteArray.empty t220 1))) (fun _ hk => hk.2) (.int .i64 (rd t230 1))) (fun _ hk => hk.2) (.int .i64 (rd t230 2))) (fun _ hk => hk.2) (.int .i64 (rd t230 3))) (fun _ h_ => h_.1))) hb); have n2_ := zA (Kd.R_below (by (with_reducible repeat (first | apply Kd.R_alloc | apply Kd.R_drewN | apply Kd.R_drew)); exact (Kd.R_mono (Kd.R_far (p := ⟨gb239, 4, none⟩) (Kd.R_far (p := ⟨gb239, 3, none⟩) (Kd.R_far (p := ⟨gb239, 2, none⟩) (Kd.R_far (p := ⟨gb239, 1, none⟩) (Kd.R_far (p := ⟨gb239, 0, none⟩) (Kd.R_types HO233.out BK239.out (by decide)) (fun _ hk => hk.2) (.int .i64 (rd t230 0))) (fun _ hk => hk.2) (.string (rdOf ByteArray.empty t220 1))) (fun _ hk => hk.2) (.int .i64 (rd t230 1))) (fun _ hk => hk.2) (.int .i64 (rd t230 2))) (fun _ hk => hk.2) (.int .i64 (rd t230 3))) (fun _ h_ => h_.1))) hb); have n3_ := zA (blk_below (g := gb218) (o := .cells #[.int .i64 0, .string (⟨#[]⟩ : ByteArray), .int .i64 0, .int .i64 0, .int .i64 0] 26 (0, 0)) (zF BK218 NB218_239) hb); have n4_ := zA (blk_below (g := gb239) (o := .cells #[.int .i64 (rd t230 0), .string (rdOf ByteArray.empty t220 1), .int .i64 (rd t230 1), .int .i64 (rd t230 2), .int .i64 (rd t230 3)] 26 (0, 0)) (by (with_reducible repeat (first | refine blk_drewN ?_ _ | refine blk_drew ?_ | refine blk_alloc ?_ _)); refine blk_put (cs := #[.int .i64 (rd t230 0), .string (rdOf ByteArray.empty t220 1), .int .i64 (rd t230 1), .int .i64 (rd t230 2), .int .i64 0]) ?_ 4 _ rfl; (with_reducible repeat (first | refine blk_drewN ?_ _ | refine blk_drew ?_ | refine blk_alloc ?_ _)); refine blk_put (cs := #[.int .i64 (rd t230 0), .string (rdOf ByteArray.empty t220 1), .int .i64 (rd t230 1), .int .i64 0, .int .i64 0]) ?_ 3 _ rfl; (with_reducible repeat (first | refine blk_drewN ?_ _ | refine blk_drew ?_ | refine blk_alloc ?_ _)); refine blk_put (cs := #[.int .i64 (rd t230 0), .string (rdOf ByteArray.empty t220 1), .int .i64 0, .int .i64 0, .int .i64 0]) ?_ 2 _ rfl; (with_reducible repeat (first | refine blk_drewN ?_ _ | refine blk_drew ?_ | refine blk_alloc ?_ _)); refine blk_put (cs := #[.int .i64 (rd t230 0), .string (⟨#[]⟩ : ByteArray), .int .i64 0, .int .i64 0, .int .i64 0]) ?_ 1 _ rfl; (with_reducible repeat (first | refine blk_drewN ?_ _ | refine blk_drew ?_ | refine blk_alloc ?_ _)); refine blk_put (cs := #[.int .i64 0, .string (⟨#[]⟩ : ByteArray), .int .i64 0, .int .i64 0, .int .i64 0]) ?_ 0 _ rfl; (with_reducible repeat (first | refine blk_drewN ?_ _ | refine blk_drew ?_ | refine blk_alloc ?_ _)); exact BK239.out) hb); have n5_ := zA (below_step (zW2 HB GE218 GE239) hb); clear HO222; clear HO229; clear HO233; clear BK218; clear BK239; clear HB; have HO222 := n0_; have HO229 := n1_; have HO233 := n2_; have BK218 := n3_; have BK239 := n4_; have HB := n5_; clear n0_ n1_ n2_ n3_ n4_ n5_; (try clear hb); (try clear hb2); (try clear hk); (try clear hi); have hcz82_0 : w81.cell? ⟨gb218, 0, none⟩ = some (.int .i64 0) := (blk_cell BK218.out 0).trans rfl; have hcz82_1 : w81.cell? ⟨gb218, 1, none⟩ = some (.string (⟨#[]⟩ : ByteArray)) := (blk_cell BK218.out 1).trans rfl; have hcz82_2 : w81.cell? ⟨gb218, 2, none⟩ = some (.int .i64 0) := (blk_cell BK218.out 2).trans rfl; have hcz82_3 : w81.cell? ⟨gb218, 3, none⟩ = some (.int .i64 0) := (blk_cell BK218.out 3).trans rfl; have hcz82_4 : w81.cell? ⟨gb218, 4, none⟩ = some (.int .i64 0) := (blk_cell BK218.out 4).trans rfl; have hfz82_0 := blk_frozen BK218.out 0; have hfz82_1 := blk_frozen BK218.out 1; have hfz82_2 := blk_frozen BK218.out 2; have hfz82_3 := blk_frozen BK218.out 3; have hfz82_4 := blk_frozen BK218.out 4))
             refine bodyPost_ret (results_ct rfl _ _ gb218 26 #[.int .i64 0, .string (⟨#[]⟩ : ByteArray), .int .i64 0, .int .i64 0, .int .i64 0] (0, 0) _ rfl (by (with_reducible repeat (first | refine blk_drewN ?_ _ | refine blk_drew ?_ | refine blk_alloc ?_ _)); refine blk_put (cs := #[.int .i64 0, .string (⟨#[]⟩ : ByteArray), .int .i64 0, .int .i64 0, .int .i64 0]) ?_ 4 _ rfl; (with_reducible repeat (first | refine blk_drewN ?_ _ | refine blk_drew ?_ | refine blk_alloc ?_ _)); refine blk_put (cs := #[.int .i64 0, .string (⟨#[]⟩ : ByteArray), .int .i64 0, .int .i64 0, .int .i64 0]) ?_ 3 _ rfl; (with_reducible repeat (first | refine blk_drewN ?_ _ | refine blk_drew ?_ | refine blk_alloc ?_ _)); refine blk_put (cs := #[.int .i64 0, .string (⟨#[]⟩ : ByteArray), .int .i64 0, .int .i64 0, .int .i64 0]) ?_ 2 _ rfl; (with_reducible repeat (first | refine blk_drewN ?_ _ | refine blk_drew ?_ | refine blk_alloc ?_ _)); refine blk_put (cs := #[.int .i64 0, .string (⟨#[]⟩ : ByteArray), .int .i64 0, .int .i64 0, .int .i64 0]) ?_ 1 _ rfl; (with_reducible repeat (first | refine blk_drewN ?_ _ | refine blk_drew ?_ | refine blk_alloc ?_ _)); refine blk_put (cs := #[.int .i64 0, .string (⟨#[]⟩ : ByteArray), .int .i64 0, .int .i64 0, .int .i64 0]) ?_ 0 _ rfl; (with_reducible repeat (first | refine blk_drewN ?_ _ | refine blk_drew ?_ | refine blk_alloc ?_ _)); exact BK218.out) Tryd.underlying26 rfl (by kernel_rfl)) rfl ?_
             exact ⟨by first | rfl | (simp [errW_none, errW_some] <;> rfl) | (simp [*, errW_none, errW_some] <;> rfl), by repeat (first | (with_reducible first | exact HB.out | apply below_alloc | apply pw_below_drewN | apply below_drew1 | refine below_set ?_ GE218.out | refine below_set ?_ GE239.out) | exact HB.out)⟩
           ·rw [if_neg c15] at H
            exact absurd H (by simp)
          ·rw [if_neg c14] at H
           exact absurd H (by simp)
         ·rw [if_neg c13] at H
          exact absurd H (by simp)
        ·rw [if_neg c12] at H
         exact absurd H (by simp)
       ·rw [if_neg c11] at H
        exact absurd H (by simp)
      ·replace c10 := Bool.eq_false_iff.mpr c10
       subst c10
       have H1 : (some (0, (⟨#[]⟩ : ByteArray), 0, 0, 0, false)) = some (r1, r2, r3, r4, r5, r6) := by rw [if_neg (show ¬ (false = true) by decide)] at H; exact H
       clear H; have H := H1; clear H1
       simp only [Option.some.injEq, Prod.mk.injEq] at H
       obtain ⟨rfl, rfl, rfl, rfl, rfl, rfl⟩ := H
       go_enter Tryd.func8, Tryd.ntmps8
       try go_wp2_with (first | ((with_reducible refine gate_dst (N := 2) rfl ?_); refine box_event ?hg (N := 2) ?hd (cs := #[.int .i64 0, .string (⟨#[]⟩ : ByteArray), .int .i64 0, .int .i64 0, .int .i64 0]) (t := 26) ?hr ?_; (case hd => rfl); (case hg => rfl); (case hr => first | (go_simp; done) | (go_simp; rfl)); intro gb218 hg w83 hbox hb; have n0_ := zA (below_step (zW HB) hb); have n1_ := zA (hbox); have n2_ := zA ((by rw [hg]; exact (below_size (zW HB)) : w.heap.size ≤ gb218)); have n3_ := zA ((by rw [hg]; exact (below_size (zW HB)) : w.heap.size ≤ gb218)); clear HB; have HB := n0_; have BK218 := n1_; have GW218 := n2_; have GE218 := n3_; clear n0_ n1_ n2_ n3_; clear hb hbox hg) | ((with_reducible refine gate_callee (f := 18) rfl ?_); refine goesL_ (some 11) rfl rfl Tryd.func18 (by kernel_rfl) rfl #[.string a0, .string (⟨#[44]⟩ : ByteArray), .string (⟨#[]⟩ : ByteArray)] rfl (zM) ?_; (with_reducible refine (strings_ReplaceAll.calls a0 (⟨#[44]⟩ : ByteArray) (⟨#[]⟩ : ByteArray) t219 _ A2.out (TT_below HT.out (by repeat (first | (with_reducible first | exact HB.out | apply below_alloc | apply pw_below_drewN | apply below_drew1 | refine below_set ?_ GE218.out) | exact HB.out | exact Below.refl _ _)))).mono ?_); rintro e w84 ⟨rfl, hb⟩; refine ⟨_, rfl, ?_⟩; have n0_ := zA (blk_below (g := gb218) (o := .cells #[.int .i64 0, .string (⟨#[]⟩ : ByteArray), .int .i64 0, .int .i64 0, .int .i64 0] 26 (0, 0)) (zB BK218) hb); have n1_ := zA (below_step (zW1 HB GE218) hb); clear BK218; clear HB; have BK218 := n0_; have HB := n1_; clear n0_ n1_; (try clear hb); (try clear hb2); (try clear hk); (try clear hi)) | ((with_reducible refine gate_callee (f := 17) rfl ?_); refine goesL_ (some 12) rfl rfl Tryd.func17 (by kernel_rfl) rfl #[.string t219, .string (⟨#[32]⟩ : ByteArray)] rfl (zM) ?_; (with_reducible refine (strings_Split.calls k t219 (⟨#[32]⟩ : ByteArray) t220 _ A3.out).mono ?_); rintro e w85 ⟨v221, rfl, ho0, hb⟩; refine ⟨_, rfl, ?_⟩; have n0_ := zA (Kd.R_lower ho0 (below_size (zW1 HB GE218))); have n1_ := zA (blk_below (g := gb218) (o := .cells #[.int .i64 0, .string (⟨#[]⟩ : ByteArray), .int .i64 0, .int .i64 0, .int .i64 0] 26 (0, 0)) (zB BK218) hb); have n2_ := zA (below_step (zW1 HB GE218) hb); clear BK218; clear HB; have HO222 := n0_; have BK218 := n1_; have HB := n2_; clear n0_ n1_ n2_; (try clear hb); (try clear hb2); (try clear hk); (try clear hi); (try clear ho0); obtain ⟨Ao86, co86, eo86⟩ := Kd.R_slice HO222.out; subst eo86))
       have n0_ := zA (Kd.R_drew HO222.out); have n1_ := zA (blk_drew BK218.out); have n2_ := zA (below_drew1 HB.out); clear HO222; clear BK218; clear HB; have HO222 := n0_; have BK218 := n1_; have HB := n2_; clear n0_ n1_ n2_; have p223 : 0 ≤ (0 : Int) := (by omega); have q223 : 0 < (t220.length : Int) := of_decide_eq_true (by first | (with_reducible assumption) | assumption)
       obtain ⟨ad223, e223, hx223_0⟩ := Kd.at_string (Kd.R_reads' HO222.out).2.2 0 p223 q223
       cases e223
       have qi223 : (0 < t220.length) = True := eq_true (by omega)
       (try rw [show ((0 : Int)).toNat = 0 from rfl] at hx223_0)
       (try rw [Addr.add_zero'] at hx223_0)
       replace p223 := eq_true p223
       replace q223 := eq_true q223
       have p224 : 0 ≤ (3 : Int) := (by omega); have q224 : 3 < (t220.length : Int) := of_decide_eq_true (by first | (with_reducible assumption) | assumption)
       obtain ⟨ad224, e224, hx224_0⟩ := Kd.at_string (Kd.R_reads' HO222.out).2.2 3 p224 q224
       obtain rfl : ad223 = ad224 := (by injection e224)
       (try simp only [show (3 : Int).toNat = 3 from rfl, Nat.reduceMul, Nat.reduceEqDiff, Go.Addr.add, ↓reduceIte] at hx224_0)
       have qi224 : (3 < t220.length) = True := eq_true (by omega)
       (try rw [show ((3 : Int)).toNat = 3 from rfl] at hx224_0)
       replace p224 := eq_true p224
       replace q224 := eq_true q224
       have p225 : 0 ≤ (5 : Int) := (by omega); have q225 : 5 < (t220.length : Int) := of_decide_eq_true (by first | (with_reducible assumption) | assumption)
       obtain ⟨ad225, e225, hx225_0⟩ := Kd.at_string (Kd.R_reads' HO222.out).2.2 5 p225 q225
       obtain rfl : ad223 = ad225 := (by injection e225)
       (try simp only [show (5 : Int).toNat = 5 from rfl, Nat.reduceMul, Nat.reduceEqDiff, Go.Addr.add, ↓reduceIte] at hx225_0)
       have qi225 : (5 < t220.length) = True := eq_true (by omega)
       (try rw [show ((5 : Int)).toNat = 5 from rfl] at hx225_0)
       replace p225 := eq_true p225
       replace q225 := eq_true q225
       have p226 : 0 ≤ (7 : Int) := (by omega); have q226 : 7 < (t220.length : Int) := of_decide_eq_true (by first | (with_reducible assumption) | assumption)
       obtain ⟨ad226, e226, hx226_0⟩ := Kd.at_string (Kd.R_reads' HO222.out).2.2 7 p226 q226
       obtain rfl : ad223 = ad226 := (by injection e226)
       (try simp only [show (7 : Int).toNat = 7 from rfl, Nat.reduceMul, Nat.reduceEqDiff, Go.Addr.add, ↓reduceIte] at hx226_0)
       have qi226 : (7 < t220.length) = True := eq_true (by omega)
       (try rw [show ((7 : Int)).toNat = 7 from rfl] at hx226_0)
       replace p226 := eq_true p226
       replace q226 := eq_true q226
       refine start_ (n := 19) (S := fun w' => w'.cell? ad223 = some (.string (rdOf ByteArray.empty t220 0)) ∧ w'.cell? ⟨ad223.block, ad223.off + 3, none⟩ = some (.string (rdOf ByteArray.empty t220 3)) ∧ w'.cell? ⟨ad223.block, ad223.off + 5, none⟩ = some (.string (rdOf ByteArray.empty t220 5)) ∧ w'.cell? ⟨ad223.block, ad223.off + 7, none⟩ = some (.string (rdOf ByteArray.empty t220 7))) (ds := []) #[false, false, false, false, false, false, false, false, false, false, false, false, false, false, false, false, false, false, false] (by kernel_rfl) rfl rfl ⟨hx223_0, hx224_0, hx225_0, hx226_0⟩ (fun hHeld => ?_); refine with_tabW impl_ParseShade.tab4 impl_ParseShade.bits4 (fun HT_ HW_ => ?_)
       generalize w85.drew = w87 at HO222 BK218 HB hx223_0 hx224_0 hx225_0 hx226_0 hHeld ⊢
       refine pure_ (i := 0) (N := some 18) (v := ?_) (a' := ?_) #[true, false, false, false, false, false, false, false, false, false, false, false, false, false, false, false, false, false, false] rfl rfl (any_of HT_.out (by kernel_rfl)) (fun _ _ _ h => h) (Or.inl ⟨by rfl, ?_⟩) ?_ ?_
       rotate_left
       ·intro w'
        go_simp
        first
         | with_reducible rfl
         | (rw [if_neg (by simp only [ByteArray.size_append, zl12_0, zl12_1, ByteArray.size_extract] at *; omega)])
       rotate_left
       ·simp only [Act.put, List.setIfInBounds_toArray, List.set_cons_zero, List.set_cons_succ, i64_w, i32_w]
        rfl
       refine pure_ (i := 1) (N := some 19) (v := ?_) (a' := ?_) #[true, true, false, false, false, false, false, false, false, false, false, false, false, false, false, false, false, false, false] rfl rfl (any_of HT_.out (by kernel_rfl)) (fun _ _ _ h => h) (Or.inl ⟨by rfl, ?_⟩) ?_ ?_
       rotate_left
       ·intro w'
        go_simp
        first
         | with_reducible rfl
         | (rw [if_neg (by simp only [ByteArray.size_append, zl12_0, zl12_1, ByteArray.size_extract] at *; omega)])
       rotate_left
       ·simp only [Act.put, List.setIfInBounds_toArray, List.set_cons_zero, List.set_cons_succ, i64_w, i32_w]
        rfl
       refine pure_ (i := 3) (N := some 21) (v := ?_) (a' := ?_) #[true, true, false, true, false, false, false, false, false, false, false, false, false, false, false, false, false, false, false] rfl rfl (any_of HT_.out (by kernel_rfl)) (fun _ _ _ h => h) (Or.inl ⟨by rfl, ?_⟩) ?_ ?_
       rotate_left
       ·intro w'
        go_simp
        first
         | with_reducible rfl
         | (rw [if_neg (by simp only [ByteArray.size_append, zl12_0, zl12_1, ByteArray.size_extract] at *; omega)])
       rotate_left
       ·simp only [Act.put, List.setIfInBounds_toArray, List.set_cons_zero, List.set_cons_succ, i64_w, i32_w]
        rfl
       refine pure_ (i := 4) (N := some 22) (v := ?_) (a' := ?_) #[true, true, false, true, true, false, false, false, false, false, false, false, false, false, false, false, false, false, false] rfl rfl (any_of HT_.out (by kernel_rfl)) (fun _ _ _ h => h) (Or.inl ⟨by rfl, ?_⟩) ?_ ?_
       rotate_left
       ·intro w'
        go_simp
        first
         | with_reducible rfl
         | (rw [if_neg (by simp only [ByteArray.size_append, zl12_0, zl12_1, ByteArray.size_extract] at *; omega)])
       rotate_left
       ·simp only [Act.put, List.setIfInBounds_toArray, List.set_cons_zero, List.set_cons_succ, i64_w, i32_w]
        rfl
       refine pure_ (i := 6) (N := some 24) (v := ?_) (a' := ?_) #[true, true, false, true, true, false, true, false, false, false, false, false, false, false, false, false, false, false, false] rfl rfl (any_of HT_.out (by kernel_rfl)) (fun _ _ _ h => h) (Or.inl ⟨by rfl, ?_⟩) ?_ ?_
       rotate_left
       ·intro w'
        go_simp
        first
         | with_reducible rfl
         | (rw [if_neg (by simp only [ByteArray.size_append, zl12_0, zl12_1, ByteArray.size_extract] at *; omega)])
       rotate_left
       ·simp only [Act.put, List.setIfInBounds_toArray, List.set_cons_zero, List.set_cons_succ, i64_w, i32_w]
        rfl
       refine pure_ (i := 7) (N := some 25) (v := ?_) (a' := ?_) #[true, true, false, true, true, false, true, true, false, false, false, false, false, false, false, false, false, false, false] rfl rfl (any_of HT_.out (by kernel_rfl)) (fun _ _ _ h => h) (Or.inl ⟨by rfl, ?_⟩) ?_ ?_
       rotate_left
       ·intro w'
        go_simp
        first
         | with_reducible rfl
         | (rw [if_neg (by simp only [ByteArray.size_append, zl12_0, zl12_1, ByteArray.size_extract] at *; omega)])
       rotate_left
       ·simp only [Act.put, List.setIfInBounds_toArray, List.set_cons_zero, List.set_cons_succ, i64_w, i32_w]
        rfl
       refine pure_ (i := 9) (N := some 27) (v := ?_) (a' := ?_) #[true, true, false, true, true, false, true, true, false, true, false, false, false, false, false, false, false, false, false] rfl rfl (any_of HT_.out (by kernel_rfl)) (fun _ _ _ h => h) (Or.inl ⟨by rfl, ?_⟩) ?_ ?_
       rotate_left
       ·intro w'
        go_simp
        first
         | with_reducible rfl
         | (rw [if_neg (by simp only [ByteArray.size_append, zl12_0, zl12_1, ByteArray.size_extract] at *; omega)])
       rotate_left
       ·simp only [Act.put, List.setIfInBounds_toArray, List.set_cons_zero, List.set_cons_succ, i64_w, i32_w]
        rfl
       refine pure_ (i := 10) (N := some 28) (v := ?_) (a' := ?_) #[true, true, false, true, true, false, true, true, false, true, true, false, false, false, false, false, false, false, false] rfl rfl (any_of HT_.out (by kernel_rfl)) (fun _ _ _ h => h) (Or.inl ⟨by rfl, ?_⟩) ?_ ?_
       rotate_left
       ·intro w'
        go_simp
        first
         | with_reducible rfl
         | (rw [if_neg (by simp only [ByteArray.size_append, zl12_0, zl12_1, ByteArray.size_extract] at *; omega)])
       rotate_left
       ·simp only [Act.put, List.setIfInBounds_toArray, List.set_cons_zero, List.set_cons_succ, i64_w, i32_w]
        rfl
       refine take_ (i := 2) (N := some 20) (v := ?_) (a' := ?_) #[true, true, true, true, true, false, true, true, false, true, true, false, false, false, false, false, false, false, false] rfl rfl (take_ofW HT_.out HW_.out (by kernel_rfl)) (fun _ _ _ h => h) (Or.inl ⟨by rfl, ?_⟩) hHeld ?_ ?_
       rotate_left
       ·rintro w' ⟨s0, s1, s2, s3⟩
        go_simp
        with_reducible rfl
       rotate_left
       ·simp only [Act.put, List.setIfInBounds_toArray, List.set_cons_zero, List.set_cons_succ, i64_w, i32_w]
        rfl
       refine take_ (i := 5) (N := some 23) (v := ?_) (a' := ?_) #[true, true, true, true, true, true, true, true, false, true, true, false, false, false, false, false, false, false, false] rfl rfl (take_ofW HT_.out HW_.out (by kernel_rfl)) (fun _ _ _ h => h) (Or.inl ⟨by rfl, ?_⟩) hHeld ?_ ?_
       rotate_left
       ·rintro w' ⟨s0, s1, s2, s3⟩
        go_simp
        with_reducible rfl
       rotate_left
       ·simp only [Act.put, List.setIfInBounds_toArray, List.set_cons_zero, List.set_cons_succ, i64_w, i32_w]
        rfl
       refine take_ (i := 8) (N := some 26) (v := ?_) (a' := ?_) #[true, true, true, true, true, true, true, true, true, true, true, false, false, false, false, false, false, false, false] rfl rfl (take_ofW HT_.out HW_.out (by kernel_rfl)) (fun _ _ _ h => h) (Or.inl ⟨by rfl, ?_⟩) hHeld ?_ ?_
       rotate_left
       ·rintro w' ⟨s0, s1, s2, s3⟩
        go_simp
        with_reducible rfl
       rotate_left
       ·simp only [Act.put, List.setIfInBounds_toArray, List.set_cons_zero, List.set_cons_succ, i64_w, i32_w]
        rfl
       refine take_ (i := 11) (N := some 29) (v := ?_) (a' := ?_) #[true, true, true, true, true, true, true, true, true, true, true, true, false, false, false, false, false, false, false] rfl rfl (take_ofW HT_.out HW_.out (by kernel_rfl)) (fun _ _ _ h => h) (Or.inl ⟨by rfl, ?_⟩) hHeld ?_ ?_
       rotate_left
       ·rintro w' ⟨s0, s1, s2, s3⟩
        go_simp
        with_reducible rfl
       rotate_left
       ·simp only [Act.put, List.setIfInBounds_toArray, List.set_cons_zero, List.set_cons_succ, i64_w, i32_w]
        rfl
       refine one_ (i := 12) (N := some 30) #[true, true, true, true, true, true, true, true, true, true, true, true, true, false, false, false, false, false, false] rfl rfl (one_of HT_.out (by kernel_rfl)) (by decide) (fun K hK => ?_)
       refine Kd.R_lit_step Kd.string _ 9 ?hg (N := 30) ?hd (xs := ([rdOf ByteArray.empty t220 0, rdOf ByteArray.empty t220 3, rdOf ByteArray.empty t220 5, rdOf ByteArray.empty t220 7] : List ByteArray)) (inner := [.string (rdOf ByteArray.empty t220 0), .string (rdOf ByteArray.empty t220 3), .string (rdOf ByteArray.empty t220 5), .string (rdOf ByteArray.empty t220 7)]) (ok := fun _ => True) (okp := fun _ => True) ?hr ?hp (fun _ hk => hk) trivial (Below.refl _ _) (Nat.le_refl _) (by simp) ?_; (case hd => rfl); (case hg => rfl); (case hr => first | (go_simp; done) | (go_simp; rfl)); (case hp => exact (Reps.one (show Kd.M Kd.string _ _ _ (rdOf ByteArray.empty t220 0) [.string (rdOf ByteArray.empty t220 0)] from rfl) (Reps.one (show Kd.M Kd.string _ _ _ (rdOf ByteArray.empty t220 3) [.string (rdOf ByteArray.empty t220 3)] from rfl) (Reps.one (show Kd.M Kd.string _ _ _ (rdOf ByteArray.empty t220 5) [.string (rdOf ByteArray.empty t220 5)] from rfl) (Reps.one (show Kd.M Kd.string _ _ _ (rdOf ByteArray.empty t220 7) [.string (rdOf ByteArray.empty t220 7)] from rfl) (Reps.none _ _))))))
       intro v228 w88 ho89 hb hg_ hnew_
       have HS0_ := (hb.cell (World.block_lt_of_cell? _ _ (hHeld.1))).trans (hHeld.1); have HS1_ := (hb.cell (World.block_lt_of_cell? _ _ (hHeld.2.1))).trans (hHeld.2.1); have HS2_ := (hb.cell (World.block_lt_of_cell? _ _ (hHeld.2.2.1))).trans (hHeld.2.2.1); have HS3_ := (hb.cell (World.block_lt_of_cell? _ _ (hHeld.2.2.2))).trans (hHeld.2.2.2); clear hg_ hnew_
       (first | rw [← Ny227.out] at ho89 | (simp only [Int.reduceToNat] at ho89; rw [← Ny227.out] at ho89))
       have n0_ := zA (Kd.R_elder' (zR HO222) (Kd.R_base ho89) hb); have n1_ := zA (Kd.R_lower (Kd.R_new' ho89 (Kd.R_lt (zR HO222))) (below_size (zW1 HB GE218))); have n2_ := zA (blk_below (g := gb218) (o := .cells #[.int .i64 0, .string (⟨#[]⟩ : ByteArray), .int .i64 0, .int .i64 0, .int .i64 0] 26 (0, 0)) (zB BK218) hb); have n3_ := zA (below_step (zW1 HB GE218) hb); clear HO222; clear BK218; clear HB; have HO222 := n0_; have HO229 := n1_; have BK218 := n2_; have HB := n3_; clear n0_ n1_ n2_ n3_; clear hb ho89
       obtain ⟨Ao90, co90, eo90⟩ := Kd.R_slice HO229.out
       (first | subst eo90 | (injection eo90 with f1_ f2_ f3_; have f4_ := f1_.symm; have f5_ := f3_.symm; clear f1_ f2_ f3_; subst f4_; subst f5_))
       refine hK.out _ _ ⟨HS0_, HS1_, HS2_, HS3_⟩ (fun hHeld => ?_)
       clear hK K
       refine norm_ (a' := ?_) ?_ ?_
       rotate_left
       ·show Act.put _ (some 30) _ = _
        simp only [Act.put, List.setIfInBounds_toArray, List.set_cons_zero, List.set_cons_succ, i64_w, i32_w]
        rfl
       refine one_ (i := 13) (N := some 31) #[true, true, true, true, true, true, true, true, true, true, true, true, true, true, false, false, false, false, false] rfl rfl (one_of HT_.out (by kernel_rfl)) (by decide) (fun K hK => ?_)
       refine goes_ Tryd.func19 (by kernel_rfl) rfl #[.slice Ao90 y227.length co90] (by rfl) rfl rfl (zM) ?_
       with_reducible refine (impl_parseInts.calls k _ _ y227 t230 false _ ?side1 ?side2 A9.out (TT_below HT.out (by repeat (first | (with_reducible first | exact HB.out | apply below_alloc | apply pw_below_drewN | apply below_drew1) | exact HB.out | exact Below.refl _ _)))).mono ?_
       (case side1 => repeat (first | exact (Kd.R_reads' HO229.out).2.2 | (with_reducible refine Kd.C_alloc ?_ _) | (with_reducible refine Kd.C_drewN ?_ _) | (with_reducible refine Kd.C_drew ?_)))
       (case side2 => exact (Kd.R_reads' HO229.out).2.1)
       rintro e w91 ⟨v232, rfl, ho0, hb⟩
       have HS0_ := (hb.cell (World.block_lt_of_cell? _ _ (hHeld.1))).trans (hHeld.1); have HS1_ := (hb.cell (World.block_lt_of_cell? _ _ (hHeld.2.1))).trans (hHeld.2.1); have HS2_ := (hb.cell (World.block_lt_of_cell? _ _ (hHeld.2.2.1))).trans (hHeld.2.2.1); have HS3_ := (hb.cell (World.block_lt_of_cell? _ _ (hHeld.2.2.2))).trans (hHeld.2.2.2)
       refine ⟨_, rfl, ?_⟩
       have n0_ := zA (Kd.R_below (zR HO222) hb); have n1_ := zA (Kd.R_below (zR HO229) hb); have n2_ := zA (Kd.R_lower ho0 (below_size (zW1 HB GE218))); have n3_ := zA (blk_below (g := gb218) (o := .cells #[.int .i64 0, .string (⟨#[]⟩ : ByteArray), .int .i64 0, .int .i64 0, .int .i64 0] 26 (0, 0)) (zB BK218) hb); have n4_ := zA (below_step (zW1 HB GE218) hb); clear HO222; clear HO229; clear BK218; clear HB; have HO222 := n0_; have HO229 := n1_; have HO233 := n2_; have BK218 := n3_; have HB := n4_; clear n0_ n1_ n2_ n3_ n4_; (try clear hb); (try clear hb2); (try clear hk); (try clear hi); (try clear ho0)
       refine hK.out _ _ ⟨HS0_, HS1_, HS2_, HS3_⟩ (fun hHeld => ?_)
       clear hK K
       refine norm_ (a' := ?_) ?_ ?_
       rotate_left
       ·show Act.put _ (some 31) _ = _
        simp only [Act.put, List.setIfInBounds_toArray, List.set_cons_zero, List.set_cons_succ, i64_w, i32_w]
        rfl
       refine pure_ (i := 14) (N := some 17) (v := ?_) (a' := ?_) #[true, true, true, true, true, true, true, true, true, true, true, true, true, true, true, false, false, false, false] rfl rfl (any_of HT_.out (by kernel_rfl)) (fun _ _ _ h => h) (Or.inl ⟨by rfl, ?_⟩) ?_ ?_
       rotate_left
       ·intro w'
        go_simp
        first
         | with_reducible rfl
         | (rw [if_neg (by simp only [ByteArray.size_append, zl12_0, zl12_1, ByteArray.size_extract] at *; omega)])
       rotate_left
       ·simp only [Act.put, List.setIfInBounds_toArray, List.set_cons_zero, List.set_cons_succ, i64_w, i32_w]
        rfl
       refine pure_ (i := 15) (N := some 32) (v := ?_) (a' := ?_) #[true, true, true, true, true, true, true, true, true, true, true, true, true, true, true, true, false, false, false] rfl rfl (any_of HT_.out (by kernel_rfl)) (fun _ _ _ h => h) (Or.inl ⟨by rfl, ?_⟩) ?_ ?_
       rotate_left
       ·intro w'
        go_simp
        first
         | with_reducible rfl
         | (rw [if_neg (by simp only [ByteArray.size_append, zl12_0, zl12_1, ByteArray.size_extract] at *; omega)])
       rotate_left
       ·simp only [Act.put, List.setIfInBounds_toArray, List.set_cons_zero, List.set_cons_succ, i64_w, i32_w]
        rfl
       refine pure_ (i := 16) (N := some 33) (v := ?_) (a' := ?_) #[true, true, true, true, true, true, true, true, true, true, true, true, true, true, true, true, true, false, false] rfl rfl (any_of HT_.out (by kernel_rfl)) (fun _ _ _ h => h) (Or.inl ⟨by rfl, ?_⟩) ?_ ?_
       rotate_left
       ·intro w'
        go_simp
        first
         | with_reducible rfl
         | (rw [if_neg (by simp only [ByteArray.size_append, zl12_0, zl12_1, ByteArray.size_extract] at *; omega)])
       rotate_left
       ·simp only [Act.put, List.setIfInBounds_toArray, List.set_cons_zero, List.set_cons_succ, i64_w, i32_w]
        rfl
       refine pure_ (i := 17) (N := some 5) (v := ?_) (a' := ?_) #[true, true, true, true, true, true, true, true, true, true, true, true, true, true, true, true, true, true, false] rfl rfl (any_of HT_.out (by kernel_rfl)) (fun _ _ _ h => h) (Or.inl ⟨by rfl, ?_⟩) ?_ ?_
       rotate_left
       ·intro w'
        go_simp
        first
         | with_reducible rfl
         | (rw [if_neg (by simp only [ByteArray.size_append, zl12_0, zl12_1, ByteArray.size_extract] at *; omega)])
       rotate_left
       ·simp only [Act.put, List.setIfInBounds_toArray, List.set_cons_zero, List.set_cons_succ, i64_w, i32_w]
        rfl
       refine pure_ (i := 18) (N := some 6) (v := ?_) (a' := ?_) #[true, true, true, true, true, true, true, true, true, true, true, true, true, true, true, true, true, true, true] rfl rfl (any_of HT_.out (by kernel_rfl)) (fun _ _ _ h => h) (Or.inl ⟨by rfl, ?_⟩) ?_ ?_
       rotate_left
       ·intro w'
        go_simp
        first
         | with_reducible rfl
         | (rw [if_neg (by simp only [ByteArray.size_append, zl12_0, zl12_1, ByteArray.size_extract] at *; omega)])
       rotate_left
       ·simp only [Act.put, List.setIfInBounds_toArray, List.set_cons_zero, List.set_cons_succ, i64_w, i32_w]
        rfl
       refine done_ (done_of HT_.out (by kernel_rfl)) ?_
       have hcz92_0 : w91.cell? ⟨gb218, 0, none⟩ = some (.int .i64 0) := (blk_cell BK218.out 0).trans rfl; have hcz92_1 : w91.cell? ⟨gb218, 1, none⟩ = some (.string (⟨#[]⟩ : ByteArray)) := (blk_cell BK218.out 1).trans rfl; have hcz92_2 : w91.cell? ⟨gb218, 2, none⟩ = some (.int .i64 0) := (blk_cell BK218.out 2).trans rfl; have hcz92_3 : w91.cell? ⟨gb218, 3, none⟩ = some (.int .i64 0) := (blk_cell BK218.out 3).trans rfl; have hcz92_4 : w91.cell? ⟨gb218, 4, none⟩ = some (.int .i64 0) := (blk_cell BK218.out 4).trans rfl; have hfz92_0 := blk_frozen BK218.out 0; have hfz92_1 := blk_frozen BK218.out 1; have hfz92_2 := blk_frozen BK218.out 2; have hfz92_3 := blk_frozen BK218.out 3; have hfz92_4 := blk_frozen BK218.out 4
       try go_wp2
       refine bodyPost_ret (results_ct rfl _ _ gb218 26 #[.int .i64 0, .string (⟨#[]⟩ : ByteArray), .int .i64 0, .int .i64 0, .int .i64 0] (0, 0) _ rfl (by (with_reducible repeat (first | refine blk_drewN ?_ _ | refine blk_drew ?_ | refine blk_alloc ?_ _)); refine blk_put (cs := #[.int .i64 0, .string (⟨#[]⟩ : ByteArray), .int .i64 0, .int .i64 0, .int .i64 0]) ?_ 4 _ rfl; (with_reducible repeat (first | refine blk_drewN ?_ _ | refine blk_drew ?_ | refine blk_alloc ?_ _)); refine blk_put (cs := #[.int .i64 0, .string (⟨#[]⟩ : ByteArray), .int .i64 0, .int .i64 0, .int .i64 0]) ?_ 3 _ rfl; (with_reducible repeat (first | refine blk_drewN ?_ _ | refine blk_drew ?_ | refine blk_alloc ?_ _)); refine blk_put (cs := #[.int .i64 0, .string (⟨#[]⟩ : ByteArray), .int .i64 0, .int .i64 0, .int .i64 0]) ?_ 2 _ rfl; (with_reducible repeat (first | refine blk_drewN ?_ _ | refine blk_drew ?_ | refine blk_alloc ?_ _)); refine blk_put (cs := #[.int .i64 0, .string (⟨#[]⟩ : ByteArray), .int .i64 0, .int .i64 0, .int .i64 0]) ?_ 1 _ rfl; (with_reducible repeat (first | refine blk_drewN ?_ _ | refine blk_drew ?_ | refine blk_alloc ?_ _)); refine blk_put (cs := #[.int .i64 0, .string (⟨#[]⟩ : ByteArray), .int .i64 0, .int .i64 0, .int .i64 0]) ?_ 0 _ rfl; (with_reducible repeat (first | refine blk_drewN ?_ _ | refine blk_drew ?_ | refine blk_alloc ?_ _)); exact BK218.out) Tryd.underlying26 rfl (by kernel_rfl)) rfl ?_
       exact ⟨by first | rfl | (simp [errW_none, errW_some] <;> rfl) | (simp [*, errW_none, errW_some] <;> rfl), by repeat (first | (with_reducible first | exact HB.out | apply below_alloc | apply pw_below_drewN | apply below_drew1 | refine below_set ?_ GE218.out) | exact HB.out)⟩
     ·rw [if_neg c8] at H
      exact absurd H (by simp)
    ·rw [if_neg c7] at H
     exact absurd H (by simp)
   ·rw [if_neg c6] at H
    exact absurd H (by simp)
  ·rw [if_neg c5] at H
   exact absurd H (by simp)
 ·rw [if_neg c4] at H
  have c4b0 : ((t220.length : Int) == 8) = false := beq_eq_false_iff_ne.mpr c4; have c4b1 : ((t220.length : Int) != 8) = true := bne_iff_ne.mpr c4
  simp only [Option.some.injEq, Prod.mk.injEq] at H
  obtain ⟨rfl, rfl, rfl, rfl, rfl, rfl⟩ := H
  go_enter Tryd.func8, Tryd.ntmps8
  go_wp2_with (first | ((with_reducible refine gate_dst (N := 2) rfl ?_); refine box_event ?hg (N := 2) ?hd (cs := #[.int .i64 0, .string (⟨#[]⟩ : ByteArray), .int .i64 0, .int .i64 0, .int .i64 0]) (t := 26) ?hr ?_; (case hd => rfl); (case hg => rfl); (case hr => first | (go_simp; done) | (go_simp; rfl)); intro gb218 hg w93 hbox hb; have n0_ := zA (below_step (zW HB) hb); have n1_ := zA (hbox); have n2_ := zA ((by rw [hg]; exact (below_size (zW HB)) : w.heap.size ≤ gb218)); have n3_ := zA ((by rw [hg]; exact (below_size (zW HB)) : w.heap.size ≤ gb218)); clear HB; have HB := n0_; have BK218 := n1_; have GW218 := n2_; have GE218 := n3_; clear n0_ n1_ n2_ n3_; clear hb hbox hg) | ((with_reducible refine gate_callee (f := 18) rfl ?_); refine goesL_ (some 11) rfl rfl Tryd.func18 (by kernel_rfl) rfl #[.string a0, .string (⟨#[44]⟩ : ByteArray), .string (⟨#[]⟩ : ByteArray)] rfl (zM) ?_; (with_reducible refine (strings_ReplaceAll.calls a0 (⟨#[44]⟩ : ByteArray) (⟨#[]⟩ : ByteArray) t219 _ A2.out (TT_below HT.out (by repeat (first | (with_reducible first | exact HB.out | apply below_alloc | apply pw_below_drewN | apply below_drew1 | refine below_set ?_ GE218.out) | exact HB.out | exact Below.refl _ _)))).mono ?_); rintro e w94 ⟨rfl, hb⟩; refine ⟨_, rfl, ?_⟩; have n0_ := zA (blk_below (g := gb218) (o := .cells #[.int .i64 0, .string (⟨#[]⟩ : ByteArray), .int .i64 0, .int .i64 0, .int .i64 0] 26 (0, 0)) (zB BK218) hb); have n1_ := zA (below_step (zW1 HB GE218) hb); clear BK218; clear HB; have BK218 := n0_; have HB := n1_; clear n0_ n1_; (try clear hb); (try clear hb2); (try clear hk); (try clear hi)) | ((with_reducible refine gate_callee (f := 17) rfl ?_); refine goesL_ (some 12) rfl rfl Tryd.func17 (by kernel_rfl) rfl #[.string t219, .string (⟨#[32]⟩ : ByteArray)] rfl (zM) ?_; (with_reducible refine (strings_Split.calls k t219 (⟨#[32]⟩ : ByteArray) t220 _ A3.out).mono ?_); rintro e w95 ⟨v221, rfl, ho0, hb⟩; refine ⟨_, rfl, ?_⟩; have n0_ := zA (Kd.R_lower ho0 (below_size (zW1 HB GE218))); have n1_ := zA (blk_below (g := gb218) (o := .cells #[.int .i64 0, .string (⟨#[]⟩ : ByteArray), .int .i64 0, .int .i64 0, .int .i64 0] 26 (0, 0)) (zB BK218) hb); have n2_ := zA (below_step (zW1 HB GE218) hb); clear BK218; clear HB; have HO222 := n0_; have BK218 := n1_; have HB := n2_; clear n0_ n1_ n2_; (try clear hb); (try clear hb2); (try clear hk); (try clear hi); (try clear ho0); obtain ⟨Ao96, co96, eo96⟩ := Kd.R_slice HO222.out; subst eo96; have hcz97_0 : w95.cell? ⟨gb218, 0, none⟩ = some (.int .i64 0) := (blk_cell BK218.out 0).trans rfl; have hcz97_1 : w95.cell? ⟨gb218, 1, none⟩ = some (.string (⟨#[]⟩ : ByteArray)) := (blk_cell BK218.out 1).trans rfl; have hcz97_2 : w95.cell? ⟨gb218, 2, none⟩ = some (.int .i64 0) := (blk_cell BK218.out 2).trans rfl; have hcz97_3 : w95.cell? ⟨gb218, 3, none⟩ = some (.int .i64 0) := (blk_cell BK218.out 3).trans rfl; have hcz97_4 : w95.cell? ⟨gb218, 4, none⟩ = some (.int .i64 0) := (blk_cell BK218.out 4).trans rfl; have hfz97_0 := blk_frozen BK218.out 0; have hfz97_1 := blk_frozen BK218.out 1; have hfz97_2 := blk_frozen BK218.out 2; have hfz97_3 := blk_frozen BK218.out 3; have hfz97_4 := blk_frozen BK218.out 4))
  refine bodyPost_ret (results_ct rfl _ _ gb218 26 #[.int .i64 0, .string (⟨#[]⟩ : ByteArray), .int .i64 0, .int .i64 0, .int .i64 0] (0, 0) _ rfl (by (with_reducible repeat (first | refine blk_drewN ?_ _ | refine blk_drew ?_ | refine blk_alloc ?_ _)); refine blk_put (cs := #[.int .i64 0, .string (⟨#[]⟩ : ByteArray), .int .i64 0, .int .i64 0, .int .i64 0]) ?_ 4 _ rfl; (with_reducible repeat (first | refine blk_drewN ?_ _ | refine blk_drew ?_ | refine blk_alloc ?_ _)); refine blk_put (cs := #[.int .i64 0, .string (⟨#[]⟩ : ByteArray), .int .i64 0, .int .i64 0, .int .i64 0]) ?_ 3 _ rfl; (with_reducible repeat (first | refine blk_drewN ?_ _ | refine blk_drew ?_ | refine blk_alloc ?_ _)); refine blk_put (cs := #[.int .i64 0, .string (⟨#[]⟩ : ByteArray), .int .i64 0, .int .i64 0, .int .i64 0]) ?_ 2 _ rfl; (with_reducible repeat (first | refine blk_drewN ?_ _ | refine blk_drew ?_ | refine blk_alloc ?_ _)); refine blk_put (cs := #[.int .i64 0, .string (⟨#[]⟩ : ByteArray), .int .i64 0, .int .i64 0, .int .i64 0]) ?_ 1 _ rfl; (with_reducible repeat (first | refine blk_drewN ?_ _ | refine blk_drew ?_ | refine blk_alloc ?_ _)); refine blk_put (cs := #[.int .i64 0, .string (⟨#[]⟩ : ByteArray), .int .i64 0, .int .i64 0, .int .i64 0]) ?_ 0 _ rfl; (with_reducible repeat (first | refine blk_drewN ?_ _ | refine blk_drew ?_ | refine blk_alloc ?_ _)); exact BK218.out) Tryd.underlying26 rfl (by kernel_rfl)) rfl ?_
  exact ⟨by first | rfl | (simp [errW_none, errW_some] <;> rfl) | (simp [*, errW_none, errW_some] <;> rfl), by repeat (first | (with_reducible first | exact HB.out | apply below_alloc | apply pw_below_drewN | apply below_drew1 | refine below_set ?_ GE218.out) | exact HB.out)⟩

end Go.Proofs.YthcgeejoocpbmaaDoor.G
