/- Plain facts on a recipe's text. -/
import Derived.Test.YtcloildodfpgfaaDoorGx2
import Derived.Test.YtcloildodfpgfaaDoorGx40
import Derived.Test.YtcloildodfpgfaaDoorGx41
import Derived.Test.YtcloildodfpgfaaDoorGx42
import Derived.Test.YtcloildodfpgfaaDoorGx43
import Derived.Test.YtcloildodfpgfaaDoorPRecipe
namespace Go.Proofs.YtcloildodfpgfaaDoor.Pure
open Go.RowKit Go.Proofs.YtcloildodfpgfaaDoor.G Go.Proofs.YtcloildodfpgfaaDoorW.PrintWords Go.Proofs.YtcloildodfpgfaaDoorW.PrintLast
set_option linter.unusedSimpArgs false
set_option linter.unusedVariables false

theorem dig (n : Nat) (h : n < 10) : (⟨#[48, 49, 50, 51, 52, 53, 54, 55, 56, 57]⟩ : ByteArray).extract n (n + 1) = ⟨#[UInt8.ofNat (48 + n)]⟩ := by
  have c : n = 0 ∨ n = 1 ∨ n = 2 ∨ n = 3 ∨ n = 4 ∨ n = 5 ∨ n = 6 ∨ n = 7 ∨ n = 8 ∨ n = 9 := by omega
  rcases c with rfl | rfl | rfl | rfl | rfl | rfl | rfl | rfl | rfl | rfl <;> decide +kernel
theorem one_size (b : UInt8) : (⟨#[b]⟩ : ByteArray).size = 1 := rfl
def numT (l : List UInt8) : ByteArray := ⟨l.toArray⟩
theorem numT_append (a b : List UInt8) : numT (a ++ b) = numT a ++ numT b := by
  unfold numT
  apply ByteArray.ext
  rw [ByteArray.data_append]
  simp
theorem numT_size (a : List UInt8) : (numT a).size = a.length := by
  show a.toArray.size = a.length
  simp
theorem digits_len (n : Nat) : (Lib.decDigits n).length ≤ n + 1 := by
  induction n using Nat.strongRecOn with
  | ind n ih =>
    rw [Lib.decDigits]
    split
    · simp
    · rw [List.length_append, List.length_singleton]
      have := ih (n / 10) (by omega)
      omega
theorem l1Num_ev (n : Nat) (h : n ≤ 1000000) : Ev (fun k => spec_l1Num.f k (n : Int)) (numT (Lib.decDigits n)) := by
  induction n using Nat.strongRecOn with
  | ind n ih =>
    refine Ev.step (fun k => rfl) ?_
    simp only [spec_l1Num.f]
    refine ev_neg (by omega) ?_
    rw [Lib.decDigits]
    by_cases c : n < 10
    · rw [dif_pos c, wrap_in (x := (n : Int) + 1) (by omega) (by omega), show ((n : Int) + 1).toNat = n + 1 by omega, Int.toNat_natCast, dig n c]
      exact ev_pos (by omega) (ev_pos (by omega) (ev_pos (by omega) (ev_pos (by omega) (Ev.now _))))
    · have e1 : Int.tmod (n : Int) 10 = ((n % 10 : Nat) : Int) := by rw [tmod_nn (by omega)]; omega
      have e2 : wrap64 (Int.tdiv (n : Int) 10) = ((n / 10 : Nat) : Int) := by rw [tdiv_nn (by omega), wrap_in (by omega) (by omega)]; omega
      have h2 := digits_len (n / 10)
      rw [dif_neg c]
      refine ev_neg (by omega) ?_
      rw [e1, e2, wrap_in (x := ((n % 10 : Nat) : Int) + 1) (by omega) (by omega), show (((n % 10 : Nat) : Int) + 1).toNat = n % 10 + 1 by omega, Int.toNat_natCast, dig (n % 10) (by omega), numT_append]
      refine Ev.bind (ih (n / 10) (by omega) (by omega)) ?_
      exact ev_pos (by omega) (ev_pos (by omega) (ev_pos (by omega) (ev_pos (by rw [one_size, numT_size]; omega) (Ev.now _))))
theorem l1Num_all (x : Int) (h0 : -1000000 ≤ x) (h1 : x ≤ 1000000) : Ev (fun k => spec_l1Num.f k x) (numT (Lib.itoa x)) := by
  unfold Lib.itoa
  by_cases c : x < 0
  · rw [if_pos c]
    obtain ⟨n, hn⟩ : ∃ n : Nat, -x = n := ⟨x.natAbs, by omega⟩
    have hx : x.natAbs = n := by omega
    have h2 := digits_len n
    refine Ev.step (fun k => rfl) ?_
    simp only [spec_l1Num.f]
    rw [hx, wrap_in (x := -x) (by omega) (by omega), hn, show (45 :: Lib.decDigits n) = [45] ++ Lib.decDigits n from rfl, numT_append]
    exact ev_pos c (Ev.bind (l1Num_ev n (by omega)) (ev_pos (by rw [numT_size]; omega) (Ev.now _)))
  · rw [if_neg c]
    obtain ⟨n, rfl⟩ : ∃ n : Nat, x = n := ⟨x.toNat, by omega⟩
    rw [Int.toNat_natCast]
    exact l1Num_ev n (by omega)
theorem decimal_eq (x : Int) (h0 : -1000000 ≤ x) (h1 : x ≤ 1000000) : impl_decimal.f x = some (numT (Lib.itoa x)) := by
  unfold impl_decimal.f numT
  rw [if_pos (by omega)]
theorem itoa_size (x : Int) (h0 : 1 ≤ x) (h1 : x ≤ 1000) : (numT (Lib.itoa x)).size ≤ 1001 := by
  unfold Lib.itoa
  rw [if_neg (by omega), numT_size]
  have := digits_len x.toNat
  omega
theorem append_list (a b : ByteArray) : (a ++ b).data.toList = a.data.toList ++ b.data.toList := by
  rw [ByteArray.data_append, Array.toList_append]
/-- One part as text. -/
def partT (x : S64) : ByteArray := (x.f0 ++ (⟨#[58]⟩ : ByteArray)) ++ numT (Lib.itoa x.f1)
def Fine (x : S64) : Prop := x.f0.size ≤ 10 ∧ 1 ≤ x.f1 ∧ x.f1 ≤ 1000
theorem colon_size : (⟨#[58]⟩ : ByteArray).size = 1 := rfl
theorem blank_size : (⟨#[32]⟩ : ByteArray).size = 1 := rfl
theorem partT_size (x : S64) (h : Fine x) : (partT x).size ≤ 1012 := by
  have := itoa_size x.f1 h.2.1 h.2.2
  have := h.1
  unfold partT
  rw [ByteArray.size_append, ByteArray.size_append, colon_size]
  omega
def LT (r : List S64) : List (List UInt8) := r.map fun x => (partT x).data.toList
/-- The parts behind what there is. -/
def FT (out : ByteArray) (r : List S64) : ByteArray := ⟨(out.data.toList ++ Lib.joinTail [32] (LT r)).toArray⟩
theorem FT_nil (out : ByteArray) : FT out [] = out := by
  unfold FT LT
  simp [Lib.joinTail]
theorem FT_cons (out : ByteArray) (x : S64) (r : List S64) : FT out (x :: r) = FT ((out ++ (⟨#[32]⟩ : ByteArray)) ++ partT x) r := by
  unfold FT LT
  rw [append_list, append_list]
  simp [Lib.joinTail, List.append_assoc]
theorem spec_loop (l : List S64) (hl : l.length ≤ 6) (hp : ∀ x ∈ l, Fine x) (d : Nat) : ∀ (out : ByteArray) (i : Int), 0 < i → i + d = l.length → (out.size : Int) ≤ 2000 * i →
    Ev (fun k => spec_RecipeText.l0 k l out i) (FT out (l.drop i.toNat), true) := by
  induction d with
  | zero =>
    intro out i h0 h1 ho
    refine Ev.step (fun k => rfl) ?_
    simp only [spec_RecipeText.l0]
    rw [List.drop_eq_nil_of_le (by omega), FT_nil]
    exact ev_neg (by omega) (Ev.now _)
  | succ d ih =>
    intro out i h0 h1 ho
    have hi : i.toNat < l.length := by omega
    obtain ⟨x1, x2, x3⟩ := hp _ (List.getElem_mem hi)
    have hz := itoa_size _ x2 x3
    have e : ((((out ++ (⟨#[32]⟩ : ByteArray)) ++ l[i.toNat].f0) ++ (⟨#[58]⟩ : ByteArray)) ++ numT (Lib.itoa l[i.toNat].f1)) = (out ++ (⟨#[32]⟩ : ByteArray)) ++ partT l[i.toNat] := by
      unfold partT
      simp only [ByteArray.append_assoc]
    have hs := partT_size _ (hp _ (List.getElem_mem hi))
    refine Ev.step (fun k => rfl) ?_
    simp only [spec_RecipeText.l0]
    rw [rdDyePart_at l i hi, List.drop_eq_getElem_cons hi, FT_cons, wrap_in (x := i + 1) (by omega) (by omega), show i.toNat + 1 = (i + 1).toNat by omega]
    refine ev_pos (by omega) (ev_pos h0 (ev_pos (by omega) (ev_pos (by omega) (ev_pos ?_ (ev_pos ?_ (Ev.bind (l1Num_all _ (by omega) (by omega)) (ev_pos ?_ ?_)))))))
    · rw [ByteArray.size_append, blank_size]; omega
    · rw [ByteArray.size_append, ByteArray.size_append, blank_size]; omega
    · rw [ByteArray.size_append, ByteArray.size_append, ByteArray.size_append, blank_size, colon_size]; omega
    · rw [e]
      exact ih _ (i + 1) (by omega) (by omega) (by rw [ByteArray.size_append, ByteArray.size_append, blank_size]; omega)
theorem spec_ev (x : S64) (r : List S64) (hl : (x :: r).length ≤ 6) (hp : ∀ y ∈ x :: r, Fine y) :
    Ev (fun k => spec_RecipeText.l0 k (x :: r) (⟨#[]⟩ : ByteArray) 0) (FT (partT x) r, true) := by
  obtain ⟨x1, x2, x3⟩ := hp x List.mem_cons_self
  have hz := itoa_size _ x2 x3
  have hs := partT_size _ (hp x List.mem_cons_self)
  have he : ((⟨#[]⟩ : ByteArray) ++ x.f0) = x.f0 := by
    apply ByteArray.ext
    rw [ByteArray.data_append]
    simp
  have hr0 : rd_T64 (x :: r) 0 = x := rfl
  have hl' : (x :: r).length = r.length + 1 := rfl
  have z0 : (⟨#[]⟩ : ByteArray).size = 0 := rfl
  refine Ev.step (fun k => rfl) ?_
  simp only [spec_RecipeText.l0]
  rw [hr0, he, wrap_in (x := (0 : Int) + 1) (by omega) (by omega)]
  refine ev_pos (by omega) (ev_neg (by omega) (ev_pos (by omega) (ev_pos (by rw [z0]; omega) (ev_pos (by omega) (Ev.bind (l1Num_all _ (by omega) (by omega)) (ev_pos ?_ ?_))))))
  · rw [ByteArray.size_append, colon_size]; omega
  · exact spec_loop (x :: r) hl hp r.length (partT x) 1 (by omega) (by omega) (by omega)
theorem impl_loop (l : List S64) (j : ByteArray) (hl : l.length ≤ 6) (hp : ∀ x ∈ l, Fine x) (d : Nat) : ∀ (xs : List ByteArray) (i : Int), 0 ≤ i → i + d = l.length → xs.length = i.toNat →
    strings_Join.f (xs ++ (l.drop i.toNat).map partT) ⟨#[32]⟩ = some j → Ev (fun k => impl_RecipeText.l0 k xs l (l.length : Int) i) (j, true) := by
  induction d with
  | zero =>
    intro xs i h0 h1 hx hj
    refine Ev.step (fun k => rfl) ?_
    simp only [impl_RecipeText.l0]
    rw [List.drop_eq_nil_of_le (by omega), List.map_nil, List.append_nil] at hj
    rw [hj]
    exact ev_neg (by omega) (Ev.now _)
  | succ d ih =>
    intro xs i h0 h1 hx hj
    have hi : i.toNat < l.length := by omega
    obtain ⟨x1, x2, x3⟩ := hp _ (List.getElem_mem hi)
    have hz := itoa_size _ x2 x3
    refine Ev.step (fun k => rfl) ?_
    simp only [impl_RecipeText.l0]
    rw [rdDyePart_at l i hi, wrap_in (x := i + 1) (by omega) (by omega), decimal_eq _ (by omega) (by omega)]
    simp only [Option.bind_some]
    refine ev_pos (by omega) (ev_pos h0 (ev_pos (by omega) (ev_pos (by omega) (ev_pos ?_ (ev_pos (by omega) ?_)))))
    · rw [ByteArray.size_append, colon_size]; omega
    · refine ih _ (i + 1) (by omega) (by omega) (by rw [List.length_append, List.length_singleton]; omega) ?_
      rw [← hj, List.drop_eq_getElem_cons hi, List.map_cons, show (i + 1).toNat = i.toNat + 1 by omega, List.append_assoc]
      rfl
theorem join_ok (x : S64) (r : List S64) (hl : (x :: r).length ≤ 6) (hp : ∀ y ∈ x :: r, Fine y) : strings_Join.f ((x :: r).map partT) ⟨#[32]⟩ = some (FT (partT x) r) := by
  have e : Lib.join (((x :: r).map partT).map (·.data.toList)) (⟨#[32]⟩ : ByteArray).data.toList = (partT x).data.toList ++ Lib.joinTail [32] (LT r) := by
    rw [List.map_cons, List.map_cons, Lib.join_cons, List.map_map]
    rfl
  have hj : ∀ r : List S64, (∀ y ∈ r, Fine y) → (Lib.joinTail [32] (LT r)).length ≤ 1013 * r.length := by
    intro r
    induction r with
    | nil => intro _; exact Nat.le_refl 0
    | cons y r ih =>
      intro hy
      have h1 := ih fun z hz => hy z (List.mem_cons_of_mem _ hz)
      have h2 : Lib.joinTail [32] (LT (y :: r)) = ([32] ++ (partT y).data.toList) ++ Lib.joinTail [32] (LT r) := by simp [Lib.joinTail, LT]
      have h3 : (partT y).data.toList.length = (partT y).size := rfl
      have h4 := partT_size y (hy y List.mem_cons_self)
      rw [h2, List.length_append, List.length_append, h3]
      simp only [List.length_cons, List.length_nil]
      omega
  have h5 := hj r fun z hz => hp z (List.mem_cons_of_mem _ hz)
  have h6 := partT_size x (hp x List.mem_cons_self)
  have h3 : (partT x).data.toList.length = (partT x).size := rfl
  rw [List.length_cons] at hl
  unfold strings_Join.f
  rw [e, if_pos]
  · rfl
  · refine ⟨by rw [List.length_map, List.length_cons]; omega, ?_⟩
    rw [List.length_append, h3]
    omega
theorem fine_of {l : List S64} (h : recB l = true) : ∀ x ∈ l, Fine x := by
  unfold recB at h
  simp only [Bool.and_eq_true, allFrom_iff] at h
  intro x hx
  obtain ⟨j, hj, e⟩ := List.getElem_of_mem hx
  have := h.1 j (by omega) (by omega)
  unfold okAt partB wordB at this
  rw [rdDyePart_at l (j : Int) (by simpa using hj)] at this
  simp only [Bool.and_eq_true, decide_eq_true_eq, Int.toNat_natCast, e] at this
  exact ⟨this.1.1.2.1, this.1.2.1, this.1.2.2⟩
end Go.Proofs.YtcloildodfpgfaaDoor.Pure
