-- Printed by a program of this session (wip/tools/gp.sh); Lean checks it.
import Derived.Test.YthcgeejoocpbmaaDoorGx0
namespace Go.Proofs.YthcgeejoocpbmaaDoor.G
open Go.RowKit Go.Proofs.YthcgeejoocpbmaaDoorW.PrintWords Go.Proofs.YthcgeejoocpbmaaDoorW.PrintLast Go.Proofs.YthcgeejoocpbmaaDoorW.PrintMore
attribute [local go_sem] isSome_setCell_ max2_int min2_int max_two min_two max_three min_three max_four min_four   -- for this text's walks alone
set_option linter.unusedVariables false
set_option linter.unusedSimpArgs false
-- zlits

-- NOT PRINTED: function 61 (strconv_small)

-- NOT PRINTED: function 78 (strconv_log10Pow2)

-- NOT PRINTED: function 79 (bits_Len64)

-- NOT PRINTED: function 80 (strconv_bool2_int)

-- NOT PRINTED: function 62 (strconv_numDigits)

-- NOT PRINTED: function 63 (strconv_formatBase10)

-- NOT PRINTED: function 81 (strconv_isPowerOfTwo)

-- NOT PRINTED: function 88 (bits_TrailingZeros32)

-- NOT PRINTED: function 89 (bits_TrailingZeros64)

-- NOT PRINTED: function 82 (bits_TrailingZeros)

-- NOT PRINTED: function 64 (strconv_formatBits)

-- NOT PRINTED: function 51 (strconv_FormatInt)

-- NOT PRINTED: function 37 (strconv_Itoa_37)

-- NOT PRINTED: function 25 (strconv_Itoa_25)

/-! ### impl_decimal: function 13 -/
/-- The library's table of tens is as its text lays it, its two errors are errors, and bytealg.MaxLen is a number. -/
def TT (w : World) : Prop := Lib.TabIs Tryd.prog w "internal/strconv.uint64pow10" .u64 Lib.pow10Tab ∧ (∃ tp p, w.var? Tryd.prog "strconv.ErrSyntax" = some #[.iface tp p]) ∧ (∃ tp p, w.var? Tryd.prog "strconv.ErrRange" = some #[.iface tp p]) ∧ ∃ m, w.cell? ⟨2, 0, none⟩ = some (.int .i64 m)
theorem var_below {w w' : World} {n : String} {r : Array Value} (h : w.var? Tryd.prog n = some r) (hb : Below w.heap.size w w') : w'.var? Tryd.prog n = some r := by
  unfold World.var? at h ⊢
  cases hg : Tryd.prog.globalNamed n with
  | none => rw [hg] at h; cases h
  | some g =>
    rw [hg] at h
    simp only [Option.bind_some] at h ⊢
    have hlt : g < w.heap.size := by
      rcases Nat.lt_or_ge g w.heap.size with h' | h'
      · exact h'
      · rw [Array.getElem?_eq_none h'] at h; cases h
    rw [hb.block g hlt]
    exact h
theorem TT_below {w w' : World} (h : TT w) (hb : Below w.heap.size w w') : TT w' := by
  obtain ⟨h1, ⟨t2, p2, h2⟩, ⟨t3, p3, h3⟩, m, h4⟩ := h
  exact ⟨var_below h1 hb, ⟨t2, p2, var_below h2 hb⟩, ⟨t3, p3, var_below h3 hb⟩, m, (hb.cell (World.block_lt_of_cell? w _ h4)).trans h4⟩
def impl_decimal.f (a0 : Int) : Option (ByteArray) := if -9223372036854775808 ≤ a0 ∧ a0 ≤ 9223372036854775807 then some (⟨(Lib.itoa a0).toArray⟩ : ByteArray) else none
theorem impl_decimal.calls (a0 : Int) (r : ByteArray) (w : World) (h : impl_decimal.f a0 = some r) (hT : TT w) :
    Calls Tryd.prog 13 #[.int .i64 a0] w fun e w' => e = .returned (.string r) ∧ Below w.heap.size w w' := by
  have HT := Aside0.mk hT
  clear hT
  unfold impl_decimal.f at h
  by_cases c : -9223372036854775808 ≤ a0 ∧ a0 ≤ 9223372036854775807
  · rw [if_pos c] at h
    obtain rfl := Option.some.inj h
    have HI : ∀ W, TT W → Calls Tryd.prog 25 #[.int .i64 a0] W fun e w' => e = .returned (.string ⟨(Lib.itoa a0).toArray⟩) ∧ Below W.heap.size W w' := fun W hW =>
      (Any.strconv_Itoa Tryd.laysItoa a0 c.1 c.2 W hW.1).mono fun e w' ⟨h1, k, os, h2⟩ => ⟨h1, by rw [h2]; exact ⟨rfl, rfl, rfl, by show W.heap.size ≤ (W.heap ++ os).size; rw [Array.size_append]; omega, fun j hj => Array.getElem?_append_left hj⟩⟩
    clear h
    generalize (⟨(Lib.itoa a0).toArray⟩ : ByteArray) = t at HI ⊢
    go_enter Tryd.func13, Tryd.ntmps13
    go_wp2_with (go_at_call 25; refine (HI _ (TT_below HT.out (by repeat (first | exact Below.refl _ _ | apply below_alloc | apply pw_below_drewN | apply below_drew1)))).mono ?_; rintro e w' ⟨rfl, hb⟩)
    go_ret
    exact ⟨rfl, by first | exact hb | exact below_step (by repeat (first | exact Below.refl _ _ | apply below_alloc | apply pw_below_drewN | apply below_drew1)) hb⟩
  · rw [if_neg c] at h
    cases h


-- NOT PRINTED: function 59 (strconv_lower)

-- NOT PRINTED: function 60 (strconv_underscoreOK)

-- NOT PRINTED: function 48 (strconv_ParseUint)

-- NOT PRINTED: function 32 (strconv_ParseInt)

-- NOT PRINTED: function 23 (strconv_Atoi_23)

-- NOT PRINTED: function 49 (stringslite_Clone)

-- NOT PRINTED: function 33 (strconv_syntaxError)

-- NOT PRINTED: function 34 (strconv_rangeError)

-- NOT PRINTED: function 50 (errors_New)

-- NOT PRINTED: function 35 (strconv_baseError)

-- NOT PRINTED: function 36 (strconv_bitSizeError)

-- NOT PRINTED: function 24 (strconv_toError)

-- NOT PRINTED: function 11 (strconv_Atoi_11)

/-! ### impl_in: function 12 -/
def impl_in.f (a0 : Int) (a1 : Int) (a2 : Int) : Option (Bool) := if a0 ≥ a1 then (some (decide (a0 ≤ a2))) else (some false)
set_option maxHeartbeats 8000000 in
set_option maxRecDepth 100000 in
theorem impl_in.calls (a0 : Int) (a1 : Int) (a2 : Int) (r : Bool) (w : World) (h : impl_in.f a0 a1 a2 = some r) :
    Calls Tryd.prog 12 #[.int .i64 a0, .int .i64 a1, .int .i64 a2] w fun e w' => e = .returned (.bool r) ∧ Drawn0 w w' := by
  have H : (if a0 ≥ a1 then (some (decide (a0 ≤ a2))) else (some false)) = some r := h
  clear h
  by_cases c4 : a0 ≥ a1
  · rw [if_pos c4] at H
    have c4b0 : decide (a1 ≤ a0) = true := decide_eq_true c4
    clear c4
    obtain rfl := Option.some.inj H
    go_enter Tryd.func12, Tryd.ntmps12
    go_wp2
    go_ret
    exact ⟨by first | rfl | (simp; done) | (simp [*]; done), by repeat (first | exact Drawn0.refl _ | apply Drawn0.step)⟩
  · rw [if_neg c4] at H
    have c4b0 : decide (a1 ≤ a0) = false := decide_eq_false c4
    clear c4
    obtain rfl := Option.some.inj H
    go_enter Tryd.func12, Tryd.ntmps12
    go_wp2
    go_ret
    exact ⟨by first | rfl | (simp; done) | (simp [*]; done), by repeat (first | exact Drawn0.refl _ | apply Drawn0.step)⟩

/-! ### impl_ParseInt: function 6 -/
theorem drawn_below {b : Nat} {w a w2 : World} (hb : Below b w a) (h : Drawn0 a w2) : Below b w w2 := by
  obtain ⟨n, rfl⟩ := h
  apply pw_below_drewN
  exact hb
def parseB (l : List UInt8) : Int × Bool :=
  match Lib.atoiAll l with
  | .ok v => if -999999 ≤ v ∧ v ≤ 999999 then (if Lib.itoa v = l then (v, true) else (0, false)) else (0, false)
  | _ => (0, false)
theorem atoi_below {w w' : World} {e : TypeId} (h : w' = w ∨ ∃ t, w' = Lib.bytesWorld w e t) : Below w.heap.size w w' := by
  rcases h with rfl | ⟨t, rfl⟩
  · exact Below.refl _ _
  · exact Lib.bytesWorld_below _ _ _
def impl_ParseInt.f (a0 : ByteArray) : Option (Int × Bool) := if a0.size ≤ 1048576 then some (parseB a0.data.toList) else none
set_option maxHeartbeats 4000000 in
theorem impl_ParseInt.calls (a0 : ByteArray) (r1 : Int) (r2 : Bool) (w : World) (h : impl_ParseInt.f a0 = some (r1, r2)) (hT : TT w) :
    Calls Tryd.prog 6 #[.string a0] w fun e w' => e = .returned (.tuple #[.int .i64 r1, .bool r2]) ∧ Below w.heap.size w w' := by
  have HT := Aside0.mk hT
  clear hT
  unfold impl_ParseInt.f at h
  by_cases c : a0.size ≤ 1048576
  · rw [if_pos c] at h
    have h := Option.some.inj h
    have HB0 : ∀ W : World, Below W.heap.size W W := fun W => Below.refl _ _
    obtain ⟨hT1, ⟨tp, p, hs⟩, ⟨tq, q, hr⟩, _⟩ := HT.out
    unfold parseB at h
    cases hv : Lib.atoiAll a0.data.toList with
    | «syntax» =>
      rw [hv] at h
      simp only [Prod.mk.injEq] at h
      obtain ⟨rfl, rfl⟩ := h
      have HA := Any.strconv_Atoi_syntax_var Tryd.laysAtoi a0 (by omega) hv tp p w hs
      clear hv hs hr hT1 c
      go_enter Tryd.func6, Tryd.ntmps6
      go_wp2_with (go_at_call 11; refine HA.mono ?_; rintro e w1 ⟨N, rfl, hN, hh, hb⟩; clear hh hN)
      go_ret2
      exact ⟨rfl, hb⟩
    | range =>
      rw [hv] at h
      simp only [Prod.mk.injEq] at h
      obtain ⟨rfl, rfl⟩ := h
      have HA := Any.strconv_Atoi_range_var Tryd.laysAtoi a0 (by omega) hv tq q w hr
      clear hv hs hr hT1 c
      generalize Lib.atoiSat a0.data.toList = sat at HA
      go_enter Tryd.func6, Tryd.ntmps6
      go_wp2_with (go_at_call 11; refine HA.mono ?_; rintro e w1 ⟨N, rfl, hN, hh, hb⟩; clear hh hN)
      go_ret2
      exact ⟨rfl, hb⟩
    | ok v =>
      rw [hv] at h
      have HA := Any.strconv_Atoi_ok Tryd.laysAtoi a0 (by omega) v hv w
      have HI := fun V => impl_in.calls v (-999999) 999999 (decide (-999999 ≤ v) && decide (v ≤ 999999)) V (by
        unfold impl_in.f
        by_cases q1 : v ≥ -999999
        · rw [if_pos q1, decide_eq_true (show -999999 ≤ v from q1)]; rfl
        · rw [if_neg q1, decide_eq_false (show ¬ -999999 ≤ v from q1)]; rfl)
      clear hv hs hr hT1 c
      dsimp only at h
      by_cases c1 : -999999 ≤ v ∧ v ≤ 999999
      · rw [if_pos c1] at h
        rw [decide_eq_true c1.1, decide_eq_true c1.2] at HI
        have hbd : -9223372036854775808 ≤ v ∧ v ≤ 9223372036854775807 := ⟨by omega, by omega⟩
        have HD := fun V hV => impl_decimal.calls v (⟨(Lib.itoa v).toArray⟩ : ByteArray) V (by unfold impl_decimal.f; rw [if_pos hbd]) hV
        clear hbd
        have HC1 := Aside0.mk c1
        clear c1
        by_cases c2 : Lib.itoa v = a0.data.toList
        · rw [if_pos c2] at h
          simp only [Prod.mk.injEq] at h
          obtain ⟨rfl, rfl⟩ := h
          have e1 : (⟨(Lib.itoa v).toArray⟩ : ByteArray) = a0 := by rw [c2]
          rw [e1] at HD
          clear c2 e1
          go_enter Tryd.func6, Tryd.ntmps6
          go_wp2_with (first | (go_at_call 11; refine HA.mono ?_; rintro e w1 ⟨rfl, hw⟩; have HW := Aside0.mk (atoi_below hw); clear hw) | (go_at_call 12; refine (HI _).mono ?_; rintro e w2 ⟨rfl, hd2⟩; have HW2 := Aside0.mk (drawn_below HW.out hd2); clear hd2) | (go_at_call 13; refine (HD _ (TT_below HT.out HW2.out)).mono ?_; rintro e w3 ⟨rfl, hb3⟩; have HW3 := Aside0.mk (below_step HW2.out hb3); clear hb3))
          go_ret2
          exact ⟨rfl, HW3.out⟩
        · rw [if_neg c2] at h
          simp only [Prod.mk.injEq] at h
          obtain ⟨rfl, rfl⟩ := h
          have e1 : ((⟨(Lib.itoa v).toArray⟩ : ByteArray).toList == a0.toList) = false := by
            rw [Lib.toList_data, Lib.toList_data]
            exact beq_eq_false_iff_ne.mpr (fun e => c2 (by simpa using e))
          have e2 : ¬ ((⟨(Lib.itoa v).toArray⟩ : ByteArray).toList = a0.toList) := fun e => by rw [e] at e1; simp at e1
          generalize (⟨(Lib.itoa v).toArray⟩ : ByteArray) = T at HD e1 e2
          clear c2
          go_enter Tryd.func6, Tryd.ntmps6
          go_wp2_with (first | (go_at_call 11; refine HA.mono ?_; rintro e w1 ⟨rfl, hw⟩; have HW := Aside0.mk (atoi_below hw); clear hw) | (go_at_call 12; refine (HI _).mono ?_; rintro e w2 ⟨rfl, hd2⟩; have HW2 := Aside0.mk (drawn_below HW.out hd2); clear hd2) | (go_at_call 13; refine (HD _ (TT_below HT.out HW2.out)).mono ?_; rintro e w3 ⟨rfl, hb3⟩; have HW3 := Aside0.mk (below_step HW2.out hb3); clear hb3))
          go_ret2
          exact ⟨rfl, HW3.out⟩
      · rw [if_neg c1] at h
        simp only [Prod.mk.injEq] at h
        obtain ⟨rfl, rfl⟩ := h
        have e1 : (decide (-999999 ≤ v) && decide (v ≤ 999999)) = false := by
          cases hx : (decide (-999999 ≤ v) && decide (v ≤ 999999)) with
          | false => rfl
          | true =>
            rw [Bool.and_eq_true] at hx
            exact absurd ⟨of_decide_eq_true hx.1, of_decide_eq_true hx.2⟩ c1
        rw [e1] at HI
        clear c1 e1
        go_enter Tryd.func6, Tryd.ntmps6
        go_wp2_with (first | (go_at_call 11; refine HA.mono ?_; rintro e w1 ⟨rfl, hw⟩; have HW := Aside0.mk (atoi_below hw); clear hw) | (go_at_call 12; refine (HI _).mono ?_; rintro e w2 ⟨rfl, hd2⟩; have HW2 := Aside0.mk (drawn_below HW.out hd2); clear hd2))
        go_ret2
        exact ⟨rfl, HW2.out⟩
  · rw [if_neg c] at h
    cases h


/-! ### impl_isId: function 45 -/
def impl_isId.f (a0 : Int) : Option (Bool) := (impl_in.f a0 1 99).bind fun t121 => (some t121)
set_option maxHeartbeats 8000000 in
set_option maxRecDepth 100000 in
theorem impl_isId.calls (a0 : Int) (r : Bool) (w : World) (h : impl_isId.f a0 = some r) :
    Calls Tryd.prog 45 #[.int .i64 a0] w fun e w' => e = .returned (.bool r) ∧ Drawn0 w w' := by
  have H : ((impl_in.f a0 1 99).bind fun t121 => (some t121)) = some r := h
  clear h
  replace H := Option.bind_eq_some_iff.mp H
  obtain ⟨t121, A20, H⟩ := H
  replace H : (some t121) = some r := H
  have A2 := Aside0.mk A20
  clear A20
  obtain rfl := Option.some.inj H
  go_enter Tryd.func45, Tryd.ntmps45
  go_wp2_with (first | ((with_reducible refine gate_callee (f := 12) rfl ?_); refine goesL_ (some 4) rfl rfl Tryd.func12 (by kernel_rfl) rfl #[.int .i64 a0, .int .i64 1, .int .i64 99] rfl (by (try simp only [List.map_toArray, List.map_cons, List.map_nil]); first | done | rfl | (simp only [List.length_drop, List.length_take]; rfl)) ?_; (with_reducible refine (impl_in.calls a0 1 99 t121 _ A2.out).mono ?_); rintro e w' ⟨rfl, ⟨nd, rfl⟩⟩; refine ⟨_, rfl, ?_⟩))
  go_ret
  exact ⟨by first | rfl | (simp; done) | (simp [*]; done), by repeat (first | exact Drawn0.refl _ | apply Drawn0.step)⟩

-- NOT PRINTED: function 71 (strings_trimLeftByte)

-- NOT PRINTED: function 72 (strings_trimRightByte)

-- NOT PRINTED: function 73 (strings_makeASCIISet)

-- NOT PRINTED: function 85 (strings_asciiSet_contains)

-- NOT PRINTED: function 74 (strings_trimLeftASCII)

-- NOT PRINTED: function 75 (strings_trimRightASCII)

-- NOT PRINTED: function 57 (utf8_decodeRuneInStringSlow)

-- NOT PRINTED: function 43 (utf8_DecodeRuneInString)

-- NOT PRINTED: function 66 (bytealg_IndexString)

-- NOT PRINTED: function 67 (bytealg_Cutover)

-- NOT PRINTED: function 83 (bytealg_IndexByteString)

-- NOT PRINTED: function 65 (stringslite_IndexByte)

-- NOT PRINTED: function 92 (strings_IndexByte)

-- NOT PRINTED: function 93 (utf8_ValidRune)

-- NOT PRINTED: function 90 (strings_IndexRune)

-- NOT PRINTED: function 86 (strings_ContainsRune)

-- NOT PRINTED: function 76 (strings_trimLeftUnicode)

-- NOT PRINTED: function 91 (utf8_RuneStart)

-- NOT PRINTED: function 87 (utf8_DecodeLastRuneInString)

-- NOT PRINTED: function 77 (strings_trimRightUnicode)

-- NOT PRINTED: function 58 (strings_Trim)

/-! ### impl_isWord: function 46 -/
/-- The letters of a word. -/
def letters : List UInt8 := [97, 98, 99, 100, 101, 102, 103, 104, 105, 106, 107, 108, 109, 110, 111, 112, 113, 114, 115, 116, 117, 118, 119, 120, 121, 122]
def wordB (s : ByteArray) : Bool := decide (1 ≤ s.size) && (decide (s.size ≤ 10) && s.data.toList.all (letters.contains ·))
theorem dw_nil {α : Type} (p : α → Bool) : ∀ l : List α, (l.dropWhile p).isEmpty = l.all p
  | [] => rfl
  | x :: xs => by
    rw [List.dropWhile_cons, List.all_cons]
    cases p x with
    | true => simpa using dw_nil p xs
    | false => simp
theorem dw_head {α : Type} (p : α → Bool) : ∀ l : List α, l.dropWhile p = [] ∨ ∃ x ∈ l.dropWhile p, p x = false
  | [] => Or.inl rfl
  | x :: xs => by
    rw [List.dropWhile_cons]
    cases h : p x with
    | true => simpa using dw_head p xs
    | false => exact Or.inr ⟨x, by simp, h⟩
theorem trim_nil (l cs : List UInt8) : (Lib.trimS l cs).isEmpty = l.all (cs.contains ·) := by
  unfold Lib.trimS Lib.trimLeftS Lib.trimRightS
  rw [dw_nil, List.all_reverse]
  rcases dw_head (cs.contains ·) l.reverse with h | ⟨x, hx, h⟩
  · have := dw_nil (cs.contains ·) l.reverse
    rw [h, List.all_reverse] at this
    rw [h, ← this]; rfl
  · have h1 : (l.reverse.dropWhile (cs.contains ·)).all (cs.contains ·) = false := by
      rw [Bool.eq_false_iff]
      intro c
      rw [List.all_eq_true] at c
      rw [c x hx] at h
      cases h
    have h2 : l.all (cs.contains ·) = false := by
      rw [Bool.eq_false_iff]
      intro c
      rw [List.all_eq_true] at c
      have := c x (by simpa using (List.dropWhile_sublist _).subset hx)
      rw [this] at h
      cases h
    rw [h1, h2]
theorem letters_ascii : ∀ (j : Nat) (b : UInt8), letters[j]? = some b → b.toNat < 128 := by
  intro j b h
  have : ∀ x ∈ letters, x.toNat < 128 := by decide
  exact this b (List.mem_of_getElem? h)
theorem bytes_nil (l : List UInt8) : (⟨l.toArray⟩ : ByteArray).toList.isEmpty = l.isEmpty := by
  rw [ByteArray.toList_mk]
theorem in_go (a b c : Int) (r : Bool) (h : (decide (b ≤ a) && decide (a ≤ c)) = r) (W : World) : Calls Tryd.prog 12 #[.int .i64 a, .int .i64 b, .int .i64 c] W fun e w' => e = .returned (.bool r) ∧ W = w' := by
  subst h
  by_cases h1 : b ≤ a
  · have h1b : decide (b ≤ a) = true := decide_eq_true h1
    rw [h1b]
    clear h1
    go_enter Tryd.func12, Tryd.ntmps12
    go_wp2
    go_ret
    exact ⟨by first | rfl | (simp; done), rfl⟩
  · have h1b : decide (b ≤ a) = false := decide_eq_false h1
    rw [h1b]
    clear h1
    go_enter Tryd.func12, Tryd.ntmps12
    go_wp2
    go_ret
    exact ⟨by first | rfl | (simp; done), rfl⟩
def impl_isWord.f (a0 : ByteArray) : Option (Bool) := some (wordB a0)
set_option maxHeartbeats 2000000 in
theorem impl_isWord.calls (a0 : ByteArray) (r : Bool) (w : World) (h : impl_isWord.f a0 = some r) :
    Calls Tryd.prog 46 #[.string a0] w fun e w' => e = .returned (.bool r) ∧ Below w.heap.size w w' := by
  unfold impl_isWord.f at h
  obtain rfl := Option.some.inj h
  clear h
  unfold wordB
  by_cases h1 : 1 ≤ a0.size
  · by_cases h2 : a0.size ≤ 10
    · rw [decide_eq_true h1, decide_eq_true h2, ← trim_nil, ← bytes_nil]
      simp only [Bool.true_and]
      have HT : ∀ W, Calls Tryd.prog 58 #[.string a0, .string ⟨#[97, 98, 99, 100, 101, 102, 103, 104, 105, 106, 107, 108, 109, 110, 111, 112, 113, 114, 115, 116, 117, 118, 119, 120, 121, 122]⟩] W fun e w' => e = .returned (.string ⟨(Lib.trimS a0.data.toList letters).toArray⟩) ∧ Below W.heap.size W w' := fun W => Any.strings_Trim_laid Tryd.laysTrim (by kernel_rfl) a0 ⟨#[97, 98, 99, 100, 101, 102, 103, 104, 105, 106, 107, 108, 109, 110, 111, 112, 113, 114, 115, 116, 117, 118, 119, 120, 121, 122]⟩ W (by omega) (by decide) letters_ascii
      have HI := in_go (a0.size : Int) 1 10 true (by simp; omega)
      generalize (⟨(Lib.trimS a0.data.toList letters).toArray⟩ : ByteArray) = r at HT ⊢
      go_enter Tryd.func46, Tryd.ntmps46
      go_wp2_with (first | (go_at_call 12; refine (HI _).mono ?_; rintro e w' ⟨rfl, rfl⟩) | (go_at_call 58; refine (HT _).mono ?_; rintro e w' ⟨rfl, hb⟩))
      go_ret
      exact ⟨rfl, hb⟩
    · rw [decide_eq_true h1, decide_eq_false h2]
      go_enter Tryd.func46, Tryd.ntmps46
      go_wp2
      go_ret
      exact ⟨rfl, by repeat (first | exact Below.refl _ _ | apply below_alloc | apply pw_below_drewN | apply below_drew1)⟩
  · rw [decide_eq_false h1]
    go_enter Tryd.func46, Tryd.ntmps46
    go_wp2
    go_ret
    exact ⟨rfl, by repeat (first | exact Below.refl _ _ | apply below_alloc | apply pw_below_drewN | apply below_drew1)⟩



/-! ### impl_isStep: function 47 -/
def impl_isStep.f (a0 : Int) : Option (Bool) := (impl_in.f a0 0 23).bind fun t122 => (some t122)
set_option maxHeartbeats 8000000 in
set_option maxRecDepth 100000 in
theorem impl_isStep.calls (a0 : Int) (r : Bool) (w : World) (h : impl_isStep.f a0 = some r) :
    Calls Tryd.prog 47 #[.int .i64 a0] w fun e w' => e = .returned (.bool r) ∧ Drawn0 w w' := by
  have H : ((impl_in.f a0 0 23).bind fun t122 => (some t122)) = some r := h
  clear h
  replace H := Option.bind_eq_some_iff.mp H
  obtain ⟨t122, A20, H⟩ := H
  replace H : (some t122) = some r := H
  have A2 := Aside0.mk A20
  clear A20
  obtain rfl := Option.some.inj H
  go_enter Tryd.func47, Tryd.ntmps47
  go_wp2_with (first | ((with_reducible refine gate_callee (f := 12) rfl ?_); refine goesL_ (some 4) rfl rfl Tryd.func12 (by kernel_rfl) rfl #[.int .i64 a0, .int .i64 0, .int .i64 23] rfl (by (try simp only [List.map_toArray, List.map_cons, List.map_nil]); first | done | rfl | (simp only [List.length_drop, List.length_take]; rfl)) ?_; (with_reducible refine (impl_in.calls a0 0 23 t122 _ A2.out).mono ?_); rintro e w' ⟨rfl, ⟨nd, rfl⟩⟩; refine ⟨_, rfl, ?_⟩))
  go_ret
  exact ⟨by first | rfl | (simp; done) | (simp [*]; done), by repeat (first | exact Drawn0.refl _ | apply Drawn0.step)⟩

end Go.Proofs.YthcgeejoocpbmaaDoor.G
