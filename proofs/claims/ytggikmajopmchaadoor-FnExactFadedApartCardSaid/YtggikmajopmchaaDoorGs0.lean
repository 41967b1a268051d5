-- Printed by a program of this session (wip/tools/gp.sh); Lean checks it.
import Derived.Test.YtggikmajopmchaaDoorGx1
import Derived.Test.YtggikmajopmchaaDoorGx2
import Derived.Test.YtggikmajopmchaaDoorGx6
namespace Go.Proofs.YtggikmajopmchaaDoor.G
open Go.RowKit Go.Proofs.YtggikmajopmchaaDoorW.PrintWords Go.Proofs.YtggikmajopmchaaDoorW.PrintLast Go.Proofs.YtggikmajopmchaaDoorW.PrintMore
attribute [local go_sem] isSome_setCell_ max2_int min2_int max_two min_two max_three min_three max_four min_four   -- for this text's walks alone
set_option linter.unusedVariables false
set_option linter.unusedSimpArgs false

def mxA (a : Int) : Int := mx a (wrap64 (-a))
theorem neg_wrapA_ (x : Int) : IntKind.i64.wrap (-x) = wrap64 (-x) := by
  unfold wrap64
  exact IntKind.wrap_i64 (-x)
attribute [local go_sem] neg_wrapA_
theorem absQ (a : Int) (w : World) : Calls Tryd.prog 45 #[.int .i64 a] w fun e w' => e = .returned (.int .i64 (mxA a)) ∧ Drawn0 w w' := by
  unfold mxA
  obtain ⟨ji2, hji2⟩ : ∃ j_ : Int, (mx a (wrap64 (-a))) = j_ := ⟨_, rfl⟩
  rw [hji2]
  have hji2_ : (if a < (wrap64 (-a)) then (wrap64 (-a)) else a) = ji2 := hji2
  go_enter Tryd.func45, Tryd.ntmps45
  go_wp2
  go_ret
  exact ⟨by first | rfl | (simp only [← hji2]; first | rfl | (simp; done)) | (simp [*]; done), by repeat (first | exact Drawn0.refl _ | apply Drawn0.step)⟩
def gapW (a b : Int) : Int := mn (mxA (wrap64 (a - b))) (wrap64 (24 - mxA (wrap64 (a - b))))
theorem gap_some (a b : Int) : impl_wheelGap.f a b = some (gapW a b) := rfl
theorem gapQ (a b : Int) (w : World) : Calls Tryd.prog 36 #[.int .i64 a, .int .i64 b] w fun e w' => e = .returned (.int .i64 (gapW a b)) ∧ Drawn0 w w' := by
  obtain ⟨ji5, hji5⟩ : ∃ j_ : Int, gapW a b = j_ := ⟨_, rfl⟩
  rw [hji5]
  have hji5_ : (if (wrap64 (24 - mxA (wrap64 (a - b)))) < mxA (wrap64 (a - b)) then (wrap64 (24 - mxA (wrap64 (a - b)))) else mxA (wrap64 (a - b))) = ji5 := hji5
  have HAB := Aside0.mk absQ
  go_enter Tryd.func36, Tryd.ntmps36
  go_wp2_with (go_at_call 45; refine (HAB.out _ _).mono ?_; rintro e w' ⟨rfl, nd, rfl⟩)
  go_ret
  exact ⟨by first | rfl | (simp only [← hji5]; first | rfl | (simp; done)) | (simp [*]; done), by first | exact ⟨_, rfl⟩ | exact ⟨_, World.drewN_drewN _ _ _⟩ | (repeat (first | exact Drawn0.refl _ | apply Drawn0.step))⟩
def impl_TriadsOf_1.f (a0_0 : Int) (a0_1 : ByteArray) (a0_2 : Int) (a0_3 : Int) (a0_4 : Int) (a1_0 : Int) (a1_1 : ByteArray) (a1_2 : Int) (a1_3 : Int) (a1_4 : Int) (a2 : Int) : Option (Bool) := (impl_wheelGap.f a0_2 a1_2).bind fun g => impl_in.f g (wrap64 (8 - a2)) (wrap64 (8 + a2))
set_option maxHeartbeats 4000000 in
/-- The closure over the box of the number within. -/
theorem triLit (x0 : Int) (x1 : ByteArray) (x2 x3 x4 : Int) (y0 : Int) (y1 : ByteArray) (y2 y3 y4 n : Int) (b : Bool) (B : Nat) (W : World) (hB : W.cell? ⟨B, 0, none⟩ = some (.int .i64 n)) (h : impl_TriadsOf_1.f x0 x1 x2 x3 x4 y0 y1 y2 y3 y4 n = some b) :
    Calls Tryd.prog 35 #[.agg #[.int .i64 x0, .string x1, .int .i64 x2, .int .i64 x3, .int .i64 x4], .agg #[.int .i64 y0, .string y1, .int .i64 y2, .int .i64 y3, .int .i64 y4], .pointer (some ⟨B, 0, none⟩)] W fun e w' => e = .returned (.bool b) ∧ Below W.heap.size W w' := by
  have hu_ := Tryd.underlying42
  have hlt := World.block_lt_of_cell? W _ hB
  unfold impl_TriadsOf_1.f at h
  rw [gap_some] at h
  simp only [Option.bind_some] at h
  have HIN := Aside0.mk (fun V => impl_in.calls _ _ _ b V h)
  have HG := Aside0.mk gapQ
  clear h
  go_enter Tryd.func35, Tryd.ntmps35
  go_wp2
  repeat (go_quiet (first | (go_at_call 36; refine (HG.out _ _ _).mono ?_; rintro e w' ⟨rfl, ⟨nd, rfl⟩⟩; (try first | exact ⟨rfl, _, World.drewN_drewN _ _ _⟩ | exact ⟨rfl, _, Eq.trans (World.drewN_drewN _ _ _) (congrArg (World.drewN _) (Nat.add_assoc _ _ _))⟩)) | (go_at_call 25; refine (HIN.out _).mono ?_; rintro e w' ⟨rfl, ⟨nd, rfl⟩⟩; (try first | exact ⟨rfl, _, World.drewN_drewN _ _ _⟩ | exact ⟨rfl, _, Eq.trans (World.drewN_drewN _ _ _) (congrArg (World.drewN _) (Nat.add_assoc _ _ _))⟩))); try go_wp2)
  go_ret
  exact ⟨by first | rfl | (simp; done), by repeat (first | exact Below.refl _ _ | apply below_alloc | apply pw_below_drewN | apply below_drew1)⟩
theorem wrapG {x : Int} (h0 : -9223372036854775808 ≤ x) (h1 : x ≤ 9223372036854775807) : wrap64 x = x := by unfold wrap64; omega
def marksG (n : Nat) (m : Int) : List Int := (List.range n).map fun (j : Nat) => m + j
theorem marksG_length (n : Nat) (m : Int) : (marksG n m).length = n := by simp [marksG]
theorem markG_l0 (m : Int) (h0m : 0 ≤ m) (hm : m ≤ 100000000) (d : Nat) : ∀ (k : Nat) (x : List Int) (i : Int), x.length ≤ 1048576 → 0 ≤ i → i + d = x.length → (∀ j : Nat, (j : Int) < i → x[j]? = some (m + j)) → d < k → laws_markIntS.l0 k x (m + i) i = some (m + x.length, marksG x.length m) := by
  induction d with
  | zero =>
    intro k x i hx h0 h1 h3 hk
    obtain ⟨k, rfl⟩ : ∃ q, k = q + 1 := ⟨k - 1, by omega⟩
    simp only [laws_markIntS.l0]
    rw [if_neg (by omega)]
    have e : x = marksG x.length m := by
      apply List.ext_getElem?
      intro j
      by_cases hj : j < x.length
      · rw [h3 j (by omega)]; simp [marksG, hj]
      · rw [List.getElem?_eq_none (by omega), List.getElem?_eq_none (by rw [marksG_length]; omega)]
    rw [← e, show m + i = m + (x.length : Int) by omega]
  | succ d ih =>
    intro k x i hx h0 h1 h3 hk
    obtain ⟨k, rfl⟩ : ∃ q, k = q + 1 := ⟨k - 1, by omega⟩
    simp only [laws_markIntS.l0]
    rw [if_pos (by omega), if_pos h0, wrapG (by omega) (by omega), wrapG (by omega) (by omega)]
    have := ih k (x.set i.toNat (m + i)) (i + 1) (by simpa using hx) (by omega) (by simp; omega) (fun j hj => by
      rw [List.getElem?_set]
      by_cases e : i.toNat = j
      · subst e; rw [if_pos rfl, if_pos (by omega)]; congr 1; omega
      · rw [if_neg e]; exact h3 j (by omega)) (by omega)
    simp only [List.length_set] at this
    rw [← this]
    congr 1
    omega
theorem markG_eq (l : List Int) (m : Int) (hl : l.length ≤ 1048576) (h0m : 0 ≤ m) (hm : m ≤ 100000000) (k : Nat) (hk : l.length < k) : laws_markIntS.f k l m = some (m + l.length, marksG l.length m) := by
  unfold laws_markIntS.f
  have := markG_l0 m h0m hm l.length k l 0 hl (by omega) (by omega) (fun j hj => by omega) hk
  simpa using this
/-- The rows that bear the marks from m on. -/
def marksL : List (List Int) → Int → List (List Int)
  | [], _ => []
  | r :: l, m => marksG r.length m :: marksL l (m + r.length)
def totalL : List (List Int) → Int
  | [] => 0
  | r :: l => r.length + totalL l
theorem totalL_cons (r : List Int) (l : List (List Int)) : totalL (r :: l) = r.length + totalL l := rfl
theorem totalL_nil : totalL [] = 0 := rfl
theorem marksL_cons (r : List Int) (l : List (List Int)) (m : Int) : marksL (r :: l) m = marksG r.length m :: marksL l (m + r.length) := rfl
theorem marksL_nil (m : Int) : marksL [] m = [] := rfl
theorem totalL_nn : ∀ l : List (List Int), 0 ≤ totalL l
  | [] => Int.le_refl _
  | r :: l => by
    have := totalL_nn l
    unfold totalL
    omega
theorem marksL_length : ∀ (l : List (List Int)) (m : Int), (marksL l m).length = l.length
  | [], _ => rfl
  | r :: l, m => by
    unfold marksL
    rw [List.length_cons, List.length_cons, marksL_length l]
def markOk (l : List (List Int)) (m : Int) : Bool := decide (0 ≤ m) && decide (m + totalL l ≤ 1000000)
def laws_markIntSS.f (l0 : List (List Int)) (a1 : Int) : Option (Int) := if markOk l0 a1 = true then some (a1 + totalL l0) else none
def gosem_cut.f (l0 : List (List Int)) (a1 : Int) : Option ((List (List Int))) := some (marksL l0 a1)
set_option maxHeartbeats 4000000 in
set_option maxRecDepth 100000 in
/-- Rows of the call's own, no two of which share a block: each bears its marks behind it. -/
theorem markSS_own (P : Nat → Prop) (v : Value) (l : List (List Int)) (m r1 : Int) (r2 : List (List Int)) (w0 w : World) (hB : Below w0.heap.size w0 w) (ho : Kd.S (Kd.slice 3 (Kd.int .i64)) 45 w w0.heap.size P v l) (h : laws_markIntSS.f l m = some r1) (h2 : gosem_cut.f l m = some r2) :
    Calls Tryd.prog 12 #[v, .int .i64 m] w fun e w' => e = .returned (.int .i64 r1) ∧ Kd.S (Kd.slice 3 (Kd.int .i64)) 45 w' w0.heap.size P v r2 ∧ Below w0.heap.size w0 w' ∧ Kept w w' P := by
  obtain ⟨A, c, rfl⟩ := Kd.S_slice ho
  obtain ⟨_, hc, hC⟩ := Kd.S_reads' ho
  have hmax := Kd.C_max hC
  clear hC
  obtain rfl := Option.some.inj h2
  unfold laws_markIntSS.f at h
  by_cases hk : markOk l m = true
  · rw [if_pos hk] at h
    obtain rfl := Option.some.inj h
    unfold markOk at hk
    rw [Bool.and_eq_true, decide_eq_true_eq, decide_eq_true_eq] at hk
    obtain ⟨hm0, hm1⟩ := hk
    have HB := Aside0.mk hB
    have HS := Aside0.mk ho
    clear hB ho h h2
    go_enter Tryd.func12, Tryd.ntmps12
    go_wp2
    go_loopg [1, 5] l.length (fun gg s1 s5 wr => ∃ (x : List (List Int)) (i mi : Int), 0 ≤ i ∧ i ≤ l.length ∧ (l.length : Int) - i ≤ gg ∧ s1 = .int .i64 mi ∧ s5 = .int .i64 i ∧ Aside0 (x.length = l.length ∧ 0 ≤ mi ∧ mi + totalL (x.drop i.toNat) = m + totalL l ∧ x.take i.toNat ++ marksL (x.drop i.toNat) mi = marksL l m) ∧ Aside0 (Kd.S (Kd.slice 3 (Kd.int .i64)) 45 wr w0.heap.size P (.slice A l.length c) x) ∧ Aside0 (Below w0.heap.size w0 wr) ∧ Aside0 (Kept w wr P))
    case atStart => exact ⟨l, 0, m, by omega, by omega, by omega, rfl, rfl, ⟨rfl, hm0, rfl, rfl⟩, HS, HB, ⟨Kept.refl _ _⟩⟩
    case round =>
      obtain ⟨x, i, mi, h0, h1, hg, rfl, rfl, HX, HS, HB, HK⟩ := hrel
      by_cases hlt : i < (l.length : Int)
      · have hxl := HX.out.1
        obtain ⟨g, cap, e, _⟩ := Kd.S_form HS.out (by omega)
        injection e with e1 e2 e3
        subst e1
        clear e2 e3
        obtain ⟨oki, cc, hcl, hM, hcc, hoki, hH⟩ := Kd.S_lend HS.out [] i h0 (by omega)
        obtain ⟨u, rfl, hR⟩ := hM
        have hu : wr.cell? ⟨g, i.toNat, none⟩ = some u := by
          have := hcc 0 u rfl
          simpa [Kd.slice] using this
        have hd : x.drop i.toNat = x.getD i.toNat [] :: x.drop (i.toNat + 1) := by
          rw [List.drop_eq_getElem_cons (by omega)]
          congr 1
          rw [List.getD_eq_getElem?_getD, List.getElem?_eq_getElem (by omega)]
          rfl
        obtain ⟨_, q0, q1, q2⟩ := HX.out
        generalize hrow : x.getD i.toNat [] = row at hR hd
        have nn := totalL_nn (x.drop (i.toNat + 1))
        rw [hd, totalL_cons] at q1
        rw [hd, marksL_cons] at q2
        have HM := Aside0.mk (laws_markIntS.calls (row.length + 1) oki u row mi _ _ w0 wr HB.out hR (markG_eq row mi (by omega) q0 (by omega) _ (by omega)))
        have HH := Aside0.mk hH
        have HR := Aside0.mk hR
        have HO := Aside0.mk hoki
        have QQ := Aside0.mk (And.intro hxl (And.intro q0 (And.intro q1 (And.intro q2 nn))))
        clear hH hR hoki hcc hcl hxl q0 q1 q2 nn hd hrow
        go_wp2_with (first | (go_at_call 31; refine HM.out.mono ?_; rintro e w' ⟨rfl, hR2, hB2, hK2⟩))
        go_roundg (l.length - (i + 1).toNat)
        case measure => omega
        case rel =>
          obtain ⟨hxl, q0, q1, q2, nn⟩ := QQ.out
          have hR3 : (Kd.int .i64).R 3 w' w0.heap.size oki u (marksG row.length mi) := Kd.R_mono (Kd.R_tight rfl hR2) (fun k hk => HR.out.1 k hk.symm)
          have hS2 := Kd.H_back (Kd.H_kept HH.out hK2 (fun _ _ hn => hn)) (Kd.M_row hR3) (fun _ hk => hk)
          refine ⟨x.set i.toNat (marksG row.length mi), i + 1, mi + row.length, by omega, by omega, by omega, rfl, rfl, ⟨by rw [List.length_set]; exact hxl, by omega, ?_, ?_⟩, ⟨hS2⟩, ⟨hB2⟩, ⟨HK.out.then_ hK2 (fun k hk => .inl (HO.out k hk).1)⟩⟩
          · rw [show (i + 1).toNat = i.toNat + 1 by omega, List.drop_set_of_lt (by omega)]
            omega
          · rw [show (i + 1).toNat = i.toNat + 1 by omega, List.drop_set_of_lt (by omega), List.take_succ_eq_append_getElem (by rw [List.length_set]; omega), List.take_set_of_le (by omega)]
            simp only [List.getElem_set_self, List.append_assoc, List.singleton_append]
            exact q2
      · obtain ⟨hxl, q0, q1, q2⟩ := HX.out
        have hi : i = l.length := by omega
        rw [hi, Int.toNat_natCast, List.drop_eq_nil_of_le (by omega)] at q1 q2
        rw [List.take_of_length_le (by omega)] at q2
        have e1 : mi = m + totalL l := by
          rw [totalL_nil] at q1
          omega
        have e2 : x = marksL l m := by
          rw [marksL_nil, List.append_nil] at q2
          exact q2
        have E1 := Aside0.mk e1
        clear e1 q1 q2 q0 hxl
        rw [e2] at HS
        clear e2 HX
        go_wp2
        go_ret
        exact ⟨by first | (rw [E1.out]; done) | (rw [E1.out]; rfl) | (simp [E1.out]; done), HS.out, HB.out, HK.out⟩
  · rw [if_neg hk] at h
    cases h
end Go.Proofs.YtggikmajopmchaaDoor.G
