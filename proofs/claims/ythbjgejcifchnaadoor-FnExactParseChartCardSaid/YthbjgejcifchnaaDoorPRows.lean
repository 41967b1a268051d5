/- The rows of a chart's text. -/
import Derived.Test.YthbjgejcifchnaaDoorPText
import Derived.Test.YthbjgejcifchnaaDoorPSplitB
namespace Go.Proofs.YthbjgejcifchnaaDoor.Pure
open Go.RowKit Go.Proofs.YthbjgejcifchnaaDoor.G Go.Proofs.YthbjgejcifchnaaDoorW.PrintWords Go.Proofs.YthbjgejcifchnaaDoorW.PrintLast
set_option linter.unusedSimpArgs false
set_option linter.unusedVariables false

theorem SP_flat (c : UInt8) : ∀ (l acc : List UInt8), (SP c acc l).flatten = acc ++ l.filter (· != c)
  | [], acc => by simp [SP]
  | x :: l, acc => by
    rw [SP]
    by_cases q : x = c
    · rw [if_pos q, List.flatten_cons, SP_flat c l [], List.filter_cons, if_neg (by simp [q])]
      rfl
    · rw [if_neg q, SP_flat c l, List.filter_cons, if_pos (by simpa using q)]
      simp
theorem tail_cons (c : UInt8) (y : List UInt8) (r : List (List UInt8)) : Lib.joinTail [c] (y :: r) = c :: (y ++ Lib.joinTail [c] r) := by simp [Lib.joinTail]
theorem SP_join (c : UInt8) : ∀ (l acc : List UInt8) (h : List UInt8) (t : List (List UInt8)), SP c acc l = h :: t → h ++ Lib.joinTail [c] t = acc ++ l
  | [], acc, h, t, e => by
    rw [SP] at e
    injection e with e1 e2
    subst e1 e2
    simp [Lib.joinTail]
  | x :: l, acc, h, t, e => by
    rw [SP] at e
    by_cases q : x = c
    · rw [if_pos q] at e
      injection e with e1 e2
      subst e1
      cases h2 : SP c [] l with
      | nil => exact absurd h2 (SP_ne c l [])
      | cons h' t' =>
        have ih := SP_join c l [] h' t' h2
        rw [← e2, h2, tail_cons, ih, q]
        rfl
    · rw [if_neg q] at e
      have ih := SP_join c l (acc ++ [x]) h t e
      rw [ih]
      simp
theorem SP_skip (c : UInt8) : ∀ (x acc l : List UInt8), c ∉ x → SP c acc (x ++ l) = SP c (acc ++ x) l
  | [], acc, l, _ => by simp
  | y :: x, acc, l, h => by
    have hy : y ≠ c := fun e => h (by simp [e])
    rw [List.cons_append, SP, if_neg hy, SP_skip c x (acc ++ [y]) l (fun e => h (List.mem_cons_of_mem _ e))]
    simp
theorem SP_of_join (c : UInt8) : ∀ (r : List (List UInt8)) (x acc : List UInt8), c ∉ x → (∀ y ∈ r, c ∉ y) → SP c acc (x ++ Lib.joinTail [c] r) = (acc ++ x) :: r
  | [], x, acc, hx, _ => by
    rw [SP_skip c x acc _ hx]
    simp [Lib.joinTail, SP]
  | y :: r, x, acc, hx, hr => by
    rw [SP_skip c x acc _ hx, tail_cons, SP, if_pos rfl, SP_of_join c r y [] (hr y List.mem_cons_self) (fun z hz => hr z (List.mem_cons_of_mem _ hz))]
    rfl
theorem filter_len (c : UInt8) : ∀ l : List UInt8, (l.filter (· != c)).length + l.count c = l.length
  | [] => rfl
  | x :: l => by
    have ih := filter_len c l
    by_cases q : x = c
    · subst q
      rw [List.filter_cons, if_neg (by simp), List.count_cons_self, List.length_cons]
      omega
    · rw [List.filter_cons, if_pos (by simpa using q), List.count_cons_of_ne q, List.length_cons, List.length_cons]
      omega
/-! ### letters as colors -/
def num (x : UInt8) : Int := (x.toNat : Int) - 97
def knots (l : List UInt8) : List Int := (l.filter (· != 47)).map num
theorem bB_of (F : List UInt8) (j : Nat) (h : j < F.length) : bB (F.map num) j = F[j] := by
  unfold bB bI
  have hx := (F[j]).toNat_lt
  rw [rd_at (F.map num) (j : Int) (by simpa using h)]
  simp only [Int.toNat_natCast, List.getElem_map, num]
  rw [show ((97 + (((F[j]).toNat : Int) - 97)) % 256).toNat = (F[j]).toNat by omega]
  exact UInt8.ofNat_toNat
theorem seg_len (w : Nat) (b : Nat → UInt8) (r c : Nat) : (seg w b r c).length = c := by simp [seg]
theorem rows_segs (W : Nat) (b : Nat → UInt8) : ∀ (rs : List (List UInt8)) (o : Nat), (∀ x ∈ rs, x.length = W) → (∀ j : Nat, j < rs.flatten.length → rs.flatten[j]? = some (b (o * W + j))) →
    rs = (List.range rs.length).map fun r => seg W b (o + r) W
  | [], o, _, _ => rfl
  | x :: rs, o, hl, hb => by
    have hx : x.length = W := hl x List.mem_cons_self
    have ih := rows_segs W b rs (o + 1) (fun y hy => hl y (List.mem_cons_of_mem _ hy)) (fun j hj => by
      have h := hb (W + j) (by rw [List.flatten_cons, List.length_append]; omega)
      rw [List.flatten_cons, List.getElem?_append_right (by omega), show W + j - x.length = j by omega] at h
      rw [h, show (o + 1) * W + j = o * W + (W + j) by rw [Nat.add_mul, Nat.one_mul]; omega])
    have h0 : x = seg W b o W := by
      apply List.ext_getElem?
      intro j
      by_cases hj : j < W
      · have h := hb j (by rw [List.flatten_cons, List.length_append]; omega)
        rw [List.flatten_cons, List.getElem?_append_left (by omega)] at h
        rw [h]
        unfold seg
        rw [List.getElem?_map, List.getElem?_range hj]
        rfl
      · rw [List.getElem?_eq_none (by omega), List.getElem?_eq_none (by rw [seg_len]; omega)]
    rw [List.length_cons, List.range_succ_eq_map, List.map_cons, List.map_map, Nat.add_zero, ← h0]
    congr 1
    refine Eq.trans ih ?_
    apply List.map_congr_left
    intro r _
    show seg W b (o + 1 + r) W = seg W b (o + (r + 1)) W
    rw [show o + 1 + r = o + (r + 1) by omega]
/-- A chart's text is read back just where all rows are as wide as the first. -/
theorem rows_iff (L : List UInt8) (W : Nat) (g : goodB (W : Int) ((SP 47 [] L).length : Int) (knots L) = true) :
    (∀ x ∈ SP 47 [] L, x.length = W) ↔ TL W (bB (knots L)) (knots L).length = L := by
  obtain ⟨w1, w2, h1, h2, hlen, hl2, hx⟩ := good_parts g
  obtain ⟨h, hh⟩ : ∃ h : Nat, (SP 47 [] L).length = h + 1 := ⟨(SP 47 [] L).length - 1, by omega⟩
  have hK : (knots L).length = (h + 1) * W := by
    rw [hh, ← Int.natCast_mul] at hlen
    rw [Nat.mul_comm]
    omega
  have hj := join_rows W (bB (knots L)) (by omega) h
  have hflat : (SP 47 [] L).flatten = L.filter (· != 47) := by rw [SP_flat]; rfl
  rw [hK]
  constructor
  · intro hall
    have e := rows_segs W (bB (knots L)) (SP 47 [] L) 0 hall (fun j hj => by
      rw [hflat] at hj ⊢
      rw [Nat.zero_mul, Nat.zero_add, List.getElem?_eq_getElem hj]
      exact congrArg some (bB_of _ j hj).symm)
    rw [hh] at e
    have e2 : (List.range (h + 1)).map (fun r => seg W (bB (knots L)) (0 + r) W) = (List.range (h + 1)).map fun r => seg W (bB (knots L)) r W := by
      apply List.map_congr_left
      intro r _
      rw [Nat.zero_add]
    rw [e2] at e
    rw [← hj, ← e]
    cases hs : SP 47 [] L with
    | nil => exact absurd hs (SP_ne 47 L [])
    | cons x t =>
      rw [Lib.join_cons, SP_join 47 L [] x t hs]
      rfl
  · intro e x hx'
    have hno : ∀ r : Nat, r < h + 1 → (47 : UInt8) ∉ seg W (bB (knots L)) r W := by
      intro r hr hm
      unfold seg at hm
      obtain ⟨j, hj1, hj2⟩ := List.mem_map.mp hm
      rw [List.mem_range] at hj1
      have hlt : r * W + j < (knots L).length := by
        have h3 : (r + 1) * W ≤ (h + 1) * W := Nat.mul_le_mul_right W hr
        rw [Nat.add_mul, Nat.one_mul] at h3
        omega
      obtain ⟨b0, b1⟩ := rd_in hx _ hlt
      unfold bB bI at hj2
      have h4 := congrArg UInt8.toNat hj2
      rw [UInt8.toNat_ofNat', show (UInt8.toNat 47) = 47 from rfl] at h4
      omega
    have e2 : (List.range (h + 1)).map (fun r => seg W (bB (knots L)) r W) = seg W (bB (knots L)) 0 W :: (List.range h).map (fun r => seg W (bB (knots L)) (r + 1) W) := by
      rw [List.range_succ_eq_map, List.map_cons, List.map_map]
      rfl
    have e3 : SP 47 [] L = (List.range (h + 1)).map fun r => seg W (bB (knots L)) r W := by
      refine (congrArg (SP 47 []) e.symm).trans ?_
      rw [← hj, e2, Lib.join_cons, SP_of_join 47 _ _ [] (hno 0 (by omega)) (fun y hy => by
        obtain ⟨r, hr1, hr2⟩ := List.mem_map.mp hy
        rw [List.mem_range] at hr1
        rw [← hr2]
        exact hno (r + 1) (by omega)), List.nil_append]
    rw [e3] at hx'
    obtain ⟨r, _, hr2⟩ := List.mem_map.mp hx'
    rw [← hr2, seg_len]
end Go.Proofs.YthbjgejcifchnaaDoor.Pure
