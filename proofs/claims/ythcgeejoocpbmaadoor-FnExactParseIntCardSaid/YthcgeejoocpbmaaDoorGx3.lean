-- Printed by a program of this session (wip/tools/gp.sh); Lean checks it.
import Derived.Test.YthcgeejoocpbmaaDoorGx0
import Derived.Test.YthcgeejoocpbmaaDoorGx1
import Derived.Test.YthcgeejoocpbmaaDoorGx2
namespace Go.Proofs.YthcgeejoocpbmaaDoor.G
open Go.RowKit Go.Proofs.YthcgeejoocpbmaaDoorW.PrintWords Go.Proofs.YthcgeejoocpbmaaDoorW.PrintLast Go.Proofs.YthcgeejoocpbmaaDoorW.PrintMore
attribute [local go_sem] isSome_setCell_ max2_int min2_int max_two min_two max_three min_three max_four min_four   -- for this text's walks alone
set_option linter.unusedVariables false
set_option linter.unusedSimpArgs false
-- zlits

-- NOT PRINTED: function 23 (strconv_Atoi_23)

-- NOT PRINTED: function 49 (stringslite_Clone)

-- NOT PRINTED: function 33 (strconv_syntaxError)

-- NOT PRINTED: function 34 (strconv_rangeError)

-- NOT PRINTED: function 61 (strconv_small)

-- NOT PRINTED: function 78 (strconv_log10Pow2)

-- NOT PRINTED: function 79 (bits_Len64)

-- NOT PRINTED: function 80 (strconv_bool2_int)

-- NOT PRINTED: function 62 (strconv_numDigits)

-- NOT PRINTED: function 63 (strconv_formatBase10)

-- NOT PRINTED: function 81 (strconv_isPowerOfTwo)

-- NOT PRINTED: function 88 (bits_TrailingZeros32)

-- NOT PRINTED: function 89 (bits_TrailingZeros64)

-- NOT PRINTED: function 82 (bits_TrailingZeros)

-- NOT PRINTED: function 64 (strconv_formatBits)

-- NOT PRINTED: function 51 (strconv_FormatInt)

-- NOT PRINTED: function 37 (strconv_Itoa_37)

-- NOT PRINTED: function 25 (strconv_Itoa_25)

-- NOT PRINTED: function 50 (errors_New)

-- NOT PRINTED: function 35 (strconv_baseError)

-- NOT PRINTED: function 36 (strconv_bitSizeError)

-- NOT PRINTED: function 24 (strconv_toError)

-- NOT PRINTED: function 11 (strconv_Atoi_11)

/-! ### impl_decimal: function 13 -/
/-- The library's table of tens is as its text lays it, and its two errors are errors. -/
def TT (w : World) : Prop := Lib.TabIs Tryd.prog w "internal/strconv.uint64pow10" .u64 Lib.pow10Tab ∧ (∃ tp p, w.var? Tryd.prog "strconv.ErrSyntax" = some #[.iface tp p]) ∧ ∃ tp p, w.var? Tryd.prog "strconv.ErrRange" = some #[.iface tp p]
theorem var_below {w w' : World} {n : String} {r : Array Value} (h : w.var? Tryd.prog n = some r) (hb : Below w.heap.size w w') : w'.var? Tryd.prog n = some r := by
  unfold World.var? at h ⊢
  cases hg : Tryd.prog.globalNamed n with
  | none => rw [hg] at h; cases h
  | some g =>
    rw [hg] at h
    simp only [Option.bind_some] at h ⊢
    have hlt : g < w.heap.size := by
      rcases Nat.lt_or_ge g w.heap.size with h' | h'
      · exact h'
      · rw [Array.getElem?_eq_none h'] at h; cases h
    rw [hb.block g hlt]
    exact h
theorem TT_below {w w' : World} (h : TT w) (hb : Below w.heap.size w w') : TT w' := by
  obtain ⟨h1, ⟨t2, p2, h2⟩, t3, p3, h3⟩ := h
  exact ⟨var_below h1 hb, ⟨t2, p2, var_below h2 hb⟩, t3, p3, var_below h3 hb⟩
def impl_decimal.f (a0 : Int) : Option (ByteArray) := if -9223372036854775808 ≤ a0 ∧ a0 ≤ 9223372036854775807 then some (⟨(Lib.itoa a0).toArray⟩ : ByteArray) else none
theorem impl_decimal.calls (a0 : Int) (r : ByteArray) (w : World) (h : impl_decimal.f a0 = some r) (hT : TT w) :
    Calls Tryd.prog 13 #[.int .i64 a0] w fun e w' => e = .returned (.string r) ∧ Below w.heap.size w w' := by
  have HT := Aside0.mk hT
  clear hT
  unfold impl_decimal.f at h
  by_cases c : -9223372036854775808 ≤ a0 ∧ a0 ≤ 9223372036854775807
  · rw [if_pos c] at h
    obtain rfl := Option.some.inj h
    have HI : ∀ W, TT W → Calls Tryd.prog 25 #[.int .i64 a0] W fun e w' => e = .returned (.string ⟨(Lib.itoa a0).toArray⟩) ∧ Below W.heap.size W w' := fun W hW =>
      (Any.strconv_Itoa Tryd.laysItoa a0 c.1 c.2 W hW.1).mono fun e w' ⟨h1, k, os, h2⟩ => ⟨h1, by rw [h2]; exact ⟨rfl, rfl, rfl, by show W.heap.size ≤ (W.heap ++ os).size; rw [Array.size_append]; omega, fun j hj => Array.getElem?_append_left hj⟩⟩
    clear h
    generalize (⟨(Lib.itoa a0).toArray⟩ : ByteArray) = t at HI ⊢
    go_enter Tryd.func13, Tryd.ntmps13
    go_wp2_with (go_at_call 25; refine (HI _ (TT_below HT.out (by repeat (first | exact Below.refl _ _ | apply below_alloc | apply pw_below_drewN | apply below_drew1)))).mono ?_; rintro e w' ⟨rfl, hb⟩)
    go_ret
    exact ⟨rfl, by first | exact hb | exact below_step (by repeat (first | exact Below.refl _ _ | apply below_alloc | apply pw_below_drewN | apply below_drew1)) hb⟩
  · rw [if_neg c] at h
    cases h


/-! ### impl_ParseInt: function 6 -/
theorem drawn_below {b : Nat} {w a w2 : World} (hb : Below b w a) (h : Drawn0 a w2) : Below b w w2 := by
  obtain ⟨n, rfl⟩ := h
  apply pw_below_drewN
  exact hb
def parseB (l : List UInt8) : Int × Bool :=
  match Lib.atoiAll l with
  | .ok v => if -999999 ≤ v ∧ v ≤ 999999 then (if Lib.itoa v = l then (v, true) else (0, false)) else (0, false)
  | _ => (0, false)
theorem atoi_below {w w' : World} {e : TypeId} (h : w' = w ∨ ∃ t, w' = Lib.bytesWorld w e t) : Below w.heap.size w w' := by
  rcases h with rfl | ⟨t, rfl⟩
  · exact Below.refl _ _
  · exact Lib.bytesWorld_below _ _ _
def impl_ParseInt.f (a0 : ByteArray) : Option (Int × Bool) := if a0.size ≤ 1048576 then some (parseB a0.data.toList) else none
set_option maxHeartbeats 4000000 in
theorem impl_ParseInt.calls (a0 : ByteArray) (r1 : Int) (r2 : Bool) (w : World) (h : impl_ParseInt.f a0 = some (r1, r2)) (hT : TT w) :
    Calls Tryd.prog 6 #[.string a0] w fun e w' => e = .returned (.tuple #[.int .i64 r1, .bool r2]) ∧ Below w.heap.size w w' := by
  have HT := Aside0.mk hT
  clear hT
  unfold impl_ParseInt.f at h
  by_cases c : a0.size ≤ 1048576
  · rw [if_pos c] at h
    have h := Option.some.inj h
    have HB0 : ∀ W : World, Below W.heap.size W W := fun W => Below.refl _ _
    obtain ⟨hT1, ⟨tp, p, hs⟩, tq, q, hr⟩ := HT.out
    unfold parseB at h
    cases hv : Lib.atoiAll a0.data.toList with
    | «syntax» =>
      rw [hv] at h
      simp only [Prod.mk.injEq] at h
      obtain ⟨rfl, rfl⟩ := h
      have HA := Any.strconv_Atoi_syntax_var Tryd.laysAtoi a0 (by omega) hv tp p w hs
      clear hv hs hr hT1 c
      go_enter Tryd.func6, Tryd.ntmps6
      go_wp2_with (go_at_call 11; refine HA.mono ?_; rintro e w1 ⟨N, rfl, hN, hh, hb⟩; clear hh hN)
      go_ret2
      exact ⟨rfl, hb⟩
    | range =>
      rw [hv] at h
      simp only [Prod.mk.injEq] at h
      obtain ⟨rfl, rfl⟩ := h
      have HA := Any.strconv_Atoi_range_var Tryd.laysAtoi a0 (by omega) hv tq q w hr
      clear hv hs hr hT1 c
      generalize Lib.atoiSat a0.data.toList = sat at HA
      go_enter Tryd.func6, Tryd.ntmps6
      go_wp2_with (go_at_call 11; refine HA.mono ?_; rintro e w1 ⟨N, rfl, hN, hh, hb⟩; clear hh hN)
      go_ret2
      exact ⟨rfl, hb⟩
    | ok v =>
      rw [hv] at h
      have HA := Any.strconv_Atoi_ok Tryd.laysAtoi a0 (by omega) v hv w
      have HI := fun V => impl_in.calls v (-999999) 999999 (decide (-999999 ≤ v) && decide (v ≤ 999999)) V (by
        unfold impl_in.f
        by_cases q1 : v ≥ -999999
        · rw [if_pos q1, decide_eq_true (show -999999 ≤ v from q1)]; rfl
        · rw [if_neg q1, decide_eq_false (show ¬ -999999 ≤ v from q1)]; rfl)
      clear hv hs hr hT1 c
      dsimp only at h
      by_cases c1 : -999999 ≤ v ∧ v ≤ 999999
      · rw [if_pos c1] at h
        rw [decide_eq_true c1.1, decide_eq_true c1.2] at HI
        have hbd : -9223372036854775808 ≤ v ∧ v ≤ 9223372036854775807 := ⟨by omega, by omega⟩
        have HD := fun V hV => impl_decimal.calls v (⟨(Lib.itoa v).toArray⟩ : ByteArray) V (by unfold impl_decimal.f; rw [if_pos hbd]) hV
        clear hbd
        have HC1 := Aside0.mk c1
        clear c1
        by_cases c2 : Lib.itoa v = a0.data.toList
        · rw [if_pos c2] at h
          simp only [Prod.mk.injEq] at h
          obtain ⟨rfl, rfl⟩ := h
          have e1 : (⟨(Lib.itoa v).toArray⟩ : ByteArray) = a0 := by rw [c2]
          rw [e1] at HD
          clear c2 e1
          go_enter Tryd.func6, Tryd.ntmps6
          go_wp2_with (first | (go_at_call 11; refine HA.mono ?_; rintro e w1 ⟨rfl, hw⟩; have HW := Aside0.mk (atoi_below hw); clear hw) | (go_at_call 12; refine (HI _).mono ?_; rintro e w2 ⟨rfl, hd2⟩; have HW2 := Aside0.mk (drawn_below HW.out hd2); clear hd2) | (go_at_call 13; refine (HD _ (TT_below HT.out HW2.out)).mono ?_; rintro e w3 ⟨rfl, hb3⟩; have HW3 := Aside0.mk (below_step HW2.out hb3); clear hb3))
          go_ret2
          exact ⟨rfl, HW3.out⟩
        · rw [if_neg c2] at h
          simp only [Prod.mk.injEq] at h
          obtain ⟨rfl, rfl⟩ := h
          have e1 : ((⟨(Lib.itoa v).toArray⟩ : ByteArray).toList == a0.toList) = false := by
            rw [Lib.toList_data, Lib.toList_data]
            exact beq_eq_false_iff_ne.mpr (fun e => c2 (by simpa using e))
          have e2 : ¬ ((⟨(Lib.itoa v).toArray⟩ : ByteArray).toList = a0.toList) := fun e => by rw [e] at e1; simp at e1
          generalize (⟨(Lib.itoa v).toArray⟩ : ByteArray) = T at HD e1 e2
          clear c2
          go_enter Tryd.func6, Tryd.ntmps6
          go_wp2_with (first | (go_at_call 11; refine HA.mono ?_; rintro e w1 ⟨rfl, hw⟩; have HW := Aside0.mk (atoi_below hw); clear hw) | (go_at_call 12; refine (HI _).mono ?_; rintro e w2 ⟨rfl, hd2⟩; have HW2 := Aside0.mk (drawn_below HW.out hd2); clear hd2) | (go_at_call 13; refine (HD _ (TT_below HT.out HW2.out)).mono ?_; rintro e w3 ⟨rfl, hb3⟩; have HW3 := Aside0.mk (below_step HW2.out hb3); clear hb3))
          go_ret2
          exact ⟨rfl, HW3.out⟩
      · rw [if_neg c1] at h
        simp only [Prod.mk.injEq] at h
        obtain ⟨rfl, rfl⟩ := h
        have e1 : (decide (-999999 ≤ v) && decide (v ≤ 999999)) = false := by
          cases hx : (decide (-999999 ≤ v) && decide (v ≤ 999999)) with
          | false => rfl
          | true =>
            rw [Bool.and_eq_true] at hx
            exact absurd ⟨of_decide_eq_true hx.1, of_decide_eq_true hx.2⟩ c1
        rw [e1] at HI
        clear c1 e1
        go_enter Tryd.func6, Tryd.ntmps6
        go_wp2_with (first | (go_at_call 11; refine HA.mono ?_; rintro e w1 ⟨rfl, hw⟩; have HW := Aside0.mk (atoi_below hw); clear hw) | (go_at_call 12; refine (HI _).mono ?_; rintro e w2 ⟨rfl, hd2⟩; have HW2 := Aside0.mk (drawn_below HW.out hd2); clear hd2))
        go_ret2
        exact ⟨rfl, HW2.out⟩
  · rw [if_neg c] at h
    cases h


/-! ### laws_FnExactParseInt: function 3 -/
def laws_FnExactParseInt.f (k : Nat) (a0 : ByteArray) : Option (Bool) := if (a0.size : Int) > 1048576 then (some true) else ((spec_ParseInt.f k a0).bind fun bt128 => ((impl_ParseInt.f a0).bind fun bt130 => (if bt130.1 = bt128.1 then (if (bt130.2 != bt128.2) = true then (some false) else (some true)) else (some false))))
theorem laws_FnExactParseInt.mono : ∀ a0 k, LeO (laws_FnExactParseInt.f k a0) (laws_FnExactParseInt.f (k + 1) a0) := by
  intro a0 k
  unfold laws_FnExactParseInt.f
  repeat' first
      | (with_reducible exact spec_ParseInt.mono _ _)
      | (with_reducible exact LeO.refl _)
      | (with_reducible exact LeO.none _)
      | (with_reducible refine LeO.ite ?_ ?_)
      | (with_reducible refine LeO.bind ?_ (fun _ => ?_))
      | exact spec_ParseInt.mono _ _
      | exact LeO.none _
      | refine LeO.ite ?_ ?_
      | refine LeO.bind ?_ (fun _ => ?_)
set_option maxHeartbeats 8000000 in
set_option maxRecDepth 100000 in
theorem laws_FnExactParseInt.calls (k : Nat) (a0 : ByteArray) (r : Bool) (w : World) (h : laws_FnExactParseInt.f k a0 = some r) (hT : TT w) :
    Calls Tryd.prog 3 #[.string a0] w fun e w' => e = .returned (.bool r) ∧ Below w.heap.size w w' := by
  have HT := Aside0.mk hT
  clear hT
  have HB := Aside0.mk (Below.refl w.heap.size w)
  have H : (if (a0.size : Int) > 1048576 then (some true) else ((spec_ParseInt.f k a0).bind fun bt128 => ((impl_ParseInt.f a0).bind fun bt130 => (if bt130.1 = bt128.1 then (if (bt130.2 != bt128.2) = true then (some false) else (some true)) else (some false))))) = some r := h
  clear h
  by_cases c2 : (a0.size : Int) > 1048576
  · rw [if_pos c2] at H
    have c2b0 : decide (1048576 < (a0.size : Int)) = true := decide_eq_true c2
    have c2b1 : decide (1048576 < a0.size) = true := decide_eq_true (by omega)
    clear c2
    obtain rfl := Option.some.inj H
    go_enter Tryd.func3, Tryd.ntmps3
    go_wp2
    go_ret
    exact ⟨by first | rfl | (simp [errW_none, errW_some] <;> rfl) | (simp [*, errW_none, errW_some] <;> rfl), by repeat (first | (with_reducible first | exact HB.out | apply below_alloc | apply pw_below_drewN | apply below_drew1) | exact HB.out)⟩
  · rw [if_neg c2] at H
    have c2b0 : decide (1048576 < (a0.size : Int)) = false := decide_eq_false c2
    have c2b1 : decide (1048576 < a0.size) = false := decide_eq_false (by omega)
    clear c2
    replace H := Option.bind_eq_some_iff.mp H
    obtain ⟨⟨t128, t129⟩, A30, H⟩ := H
    replace H : ((impl_ParseInt.f a0).bind fun bt130 => (if bt130.1 = t128 then (if (bt130.2 != t129) = true then (some false) else (some true)) else (some false))) = some r := H
    have A3 := Aside0.mk A30
    clear A30
    replace H := Option.bind_eq_some_iff.mp H
    obtain ⟨⟨t130, t131⟩, A40, H⟩ := H
    replace H : (if t130 = t128 then (if (t131 != t129) = true then (some false) else (some true)) else (some false)) = some r := H
    have A4 := Aside0.mk A40
    clear A40
    by_cases c5 : t130 = t128
    · rw [if_pos c5] at H
      have c5b0 : (t130 == t128) = true := beq_iff_eq.mpr c5
      have c5b1 : (t130 != t128) = false := bne_eq_false_iff_eq.mpr c5
      clear c5
      by_cases c6 : (t131 != t129) = true
      · rw [if_pos c6] at H
        have c6b0 : (t131 != t129) = true := c6
        (try (have c6b1 : decide (t131 = t129) = false := by simpa using c6))
        (try (have c6b2 : (t131 == t129) = false := by simpa using c6))
        (try (have c6b3 : ¬ (t131 = t129) := by simpa using c6))
        clear c6
        obtain rfl := Option.some.inj H
        go_enter Tryd.func3, Tryd.ntmps3
        go_wp2_with (first | ((with_reducible refine gate_callee (f := 5) rfl ?_); refine goesL_ (some 12) rfl rfl Tryd.func5 (by kernel_rfl) rfl #[.string a0] rfl (by (try simp only [List.map_toArray, List.map_cons, List.map_nil]); first | done | rfl | (simp only [List.length_drop, List.length_take]; rfl)) ?_; (with_reducible refine (spec_ParseInt.calls k a0 t128 t129 _ A3.out).mono ?_); rintro e w7 ⟨rfl, hb⟩; refine ⟨_, rfl, ?_⟩; have n0_ := Aside0.mk (below_step (by repeat (first | (with_reducible first | exact HB.out | apply below_alloc | apply pw_below_drewN | apply below_drew1) | exact HB.out)) hb); clear HB; have HB := n0_; clear n0_; (try clear hb); (try clear hb2); (try clear hk); (try clear hi)) | ((with_reducible refine gate_callee (f := 6) rfl ?_); refine goesL_ (some 17) rfl rfl Tryd.func6 (by kernel_rfl) rfl #[.string a0] rfl (by (try simp only [List.map_toArray, List.map_cons, List.map_nil]); first | done | rfl | (simp only [List.length_drop, List.length_take]; rfl)) ?_; (with_reducible refine (impl_ParseInt.calls a0 t130 t131 _ A4.out (TT_below HT.out (by repeat (first | (with_reducible first | exact HB.out | apply below_alloc | apply pw_below_drewN | apply below_drew1) | exact HB.out | exact Below.refl _ _)))).mono ?_); rintro e w8 ⟨rfl, hb⟩; refine ⟨_, rfl, ?_⟩; have n0_ := Aside0.mk (below_step (by repeat (first | (with_reducible first | exact HB.out | apply below_alloc | apply pw_below_drewN | apply below_drew1) | exact HB.out)) hb); clear HB; have HB := n0_; clear n0_; (try clear hb); (try clear hb2); (try clear hk); (try clear hi)))
        go_ret
        exact ⟨by first | rfl | (simp [errW_none, errW_some] <;> rfl) | (simp [*, errW_none, errW_some] <;> rfl), by repeat (first | (with_reducible first | exact HB.out | apply below_alloc | apply pw_below_drewN | apply below_drew1) | exact HB.out)⟩
      · rw [if_neg c6] at H
        have c6b0 : (t131 != t129) = false := by simpa using c6
        (try (have c6b1 : decide (t131 = t129) = true := by simpa using c6))
        (try (have c6b2 : (t131 == t129) = true := by simpa using c6))
        clear c6
        obtain rfl := Option.some.inj H
        go_enter Tryd.func3, Tryd.ntmps3
        go_wp2_with (first | ((with_reducible refine gate_callee (f := 5) rfl ?_); refine goesL_ (some 12) rfl rfl Tryd.func5 (by kernel_rfl) rfl #[.string a0] rfl (by (try simp only [List.map_toArray, List.map_cons, List.map_nil]); first | done | rfl | (simp only [List.length_drop, List.length_take]; rfl)) ?_; (with_reducible refine (spec_ParseInt.calls k a0 t128 t129 _ A3.out).mono ?_); rintro e w9 ⟨rfl, hb⟩; refine ⟨_, rfl, ?_⟩; have n0_ := Aside0.mk (below_step (by repeat (first | (with_reducible first | exact HB.out | apply below_alloc | apply pw_below_drewN | apply below_drew1) | exact HB.out)) hb); clear HB; have HB := n0_; clear n0_; (try clear hb); (try clear hb2); (try clear hk); (try clear hi)) | ((with_reducible refine gate_callee (f := 6) rfl ?_); refine goesL_ (some 17) rfl rfl Tryd.func6 (by kernel_rfl) rfl #[.string a0] rfl (by (try simp only [List.map_toArray, List.map_cons, List.map_nil]); first | done | rfl | (simp only [List.length_drop, List.length_take]; rfl)) ?_; (with_reducible refine (impl_ParseInt.calls a0 t130 t131 _ A4.out (TT_below HT.out (by repeat (first | (with_reducible first | exact HB.out | apply below_alloc | apply pw_below_drewN | apply below_drew1) | exact HB.out | exact Below.refl _ _)))).mono ?_); rintro e w10 ⟨rfl, hb⟩; refine ⟨_, rfl, ?_⟩; have n0_ := Aside0.mk (below_step (by repeat (first | (with_reducible first | exact HB.out | apply below_alloc | apply pw_below_drewN | apply below_drew1) | exact HB.out)) hb); clear HB; have HB := n0_; clear n0_; (try clear hb); (try clear hb2); (try clear hk); (try clear hi)))
        go_ret
        exact ⟨by first | rfl | (simp [errW_none, errW_some] <;> rfl) | (simp [*, errW_none, errW_some] <;> rfl), by repeat (first | (with_reducible first | exact HB.out | apply below_alloc | apply pw_below_drewN | apply below_drew1) | exact HB.out)⟩
    · rw [if_neg c5] at H
      have c5b0 : (t130 == t128) = false := beq_eq_false_iff_ne.mpr c5
      have c5b1 : (t130 != t128) = true := bne_iff_ne.mpr c5
      obtain rfl := Option.some.inj H
      go_enter Tryd.func3, Tryd.ntmps3
      go_wp2_with (first | ((with_reducible refine gate_callee (f := 5) rfl ?_); refine goesL_ (some 12) rfl rfl Tryd.func5 (by kernel_rfl) rfl #[.string a0] rfl (by (try simp only [List.map_toArray, List.map_cons, List.map_nil]); first | done | rfl | (simp only [List.length_drop, List.length_take]; rfl)) ?_; (with_reducible refine (spec_ParseInt.calls k a0 t128 t129 _ A3.out).mono ?_); rintro e w11 ⟨rfl, hb⟩; refine ⟨_, rfl, ?_⟩; have n0_ := Aside0.mk (below_step (by repeat (first | (with_reducible first | exact HB.out | apply below_alloc | apply pw_below_drewN | apply below_drew1) | exact HB.out)) hb); clear HB; have HB := n0_; clear n0_; (try clear hb); (try clear hb2); (try clear hk); (try clear hi)) | ((with_reducible refine gate_callee (f := 6) rfl ?_); refine goesL_ (some 17) rfl rfl Tryd.func6 (by kernel_rfl) rfl #[.string a0] rfl (by (try simp only [List.map_toArray, List.map_cons, List.map_nil]); first | done | rfl | (simp only [List.length_drop, List.length_take]; rfl)) ?_; (with_reducible refine (impl_ParseInt.calls a0 t130 t131 _ A4.out (TT_below HT.out (by repeat (first | (with_reducible first | exact HB.out | apply below_alloc | apply pw_below_drewN | apply below_drew1) | exact HB.out | exact Below.refl _ _)))).mono ?_); rintro e w12 ⟨rfl, hb⟩; refine ⟨_, rfl, ?_⟩; have n0_ := Aside0.mk (below_step (by repeat (first | (with_reducible first | exact HB.out | apply below_alloc | apply pw_below_drewN | apply below_drew1) | exact HB.out)) hb); clear HB; have HB := n0_; clear n0_; (try clear hb); (try clear hb2); (try clear hk); (try clear hi)))
      go_ret
      exact ⟨by first | rfl | (simp [errW_none, errW_some] <;> rfl) | (simp [*, errW_none, errW_some] <;> rfl), by repeat (first | (with_reducible first | exact HB.out | apply below_alloc | apply pw_below_drewN | apply below_drew1) | exact HB.out)⟩


end Go.Proofs.YthcgeejoocpbmaaDoor.G
