-- Printed by a program of this session (wip/tools/gp.sh); Lean checks it.
import Derived.Test.YtpbipijjihbjhaaProg
import Derived.Below
import Derived.Deep.Draws
import Derived.Deep.AppendLies
import Derived.Maps.AppendAt
import Derived.OwnWalk
import Derived.Laws.BytesArg
import Derived.Laws.MakeOwn
import Derived.Laws.OwnMore
import Derived.Deep.OwnRows
import Derived.Tactics
import Derived.Lib.ConvBytes
import Derived.Laws.Slices
import Derived.WalkKit
import Derived.KernelRfl
import Derived.RowKit3
import Derived.Deep.LoopGhost
import Derived.Deep.QuietTactic
import Derived.BigQuiet
import Derived.WideLaws
import Derived.Deep.DeepCutAuto
import Derived.Deep.CutBlock
import Derived.Deep.RegionHeld3
import Derived.Laws.Rows
import Derived.Lib.AppendStr
import Derived.ArgAppend
import Derived.Laws.IdiomCopy
import Derived.OrdersHeld
import Derived.Laws.BitsLemmas
import Derived.RowKit
import Derived.Shelf.Abstract
import Derived.Deep.RegionWith
import Derived.Test.YtpbipijjihbjhaaWWords
import Derived.Test.YtpbipijjihbjhaaWLast
import Derived.Test.YtpbipijjihbjhaaWTab
import Derived.Test.YtpbipijjihbjhaaWFour
import Derived.Test.YtpbipijjihbjhaaWQPut
import Derived.Test.YtpbipijjihbjhaaWApart
import Derived.Test.YtpbipijjihbjhaaWArr
import Derived.Test.YtpbipijjihbjhaaWZeros
import Derived.Test.YtpbipijjihbjhaaWFoot
import Derived.Test.YtpbipijjihbjhaaWKept
import Derived.Test.YtpbipijjihbjhaaWShare
import Derived.Test.YtpbipijjihbjhaaWN
import Derived.Test.YtpbipijjihbjhaaWFootNe
import Derived.Test.YtpbipijjihbjhaaWAt
import Derived.Test.YtpbipijjihbjhaaWEqStruct
import Derived.Test.YtpbipijjihbjhaaWRepsOne
import Derived.Test.YtpbipijjihbjhaaWInv
import Derived.Test.YtpbipijjihbjhaaWInvWords
import Derived.Test.YtpbipijjihbjhaaWGuard
import Derived.Test.YtpbipijjihbjhaaWNEv
import Derived.Test.YtpbipijjihbjhaaWMore
namespace Go.Proofs.Ytpbipijjihbjhaa.G
open Go.RowKit Go.Proofs.YtpbipijjihbjhaaW.PrintWords Go.Proofs.YtpbipijjihbjhaaW.PrintLast Go.Proofs.YtpbipijjihbjhaaW.PrintMore
attribute [local go_sem] max2_int min2_int max_two min_two max_three min_three max_four min_four   -- for this text's walks alone
set_option linter.unusedVariables false
set_option linter.unusedSimpArgs false



def errW : Option Int → Value
  | none => .nilIface
  | some c => .iface 0 (.int .i64 c)
theorem errW_none : errW none = .nilIface := rfl
theorem errW_some (c : Int) : errW (some c) = .iface 0 (.int .i64 c) := rfl

theorem info3 : (Try.prog.info? 3).map (fun i => (i.zero, i.size, i.bytes)) = some (some (.int .i64 0), 1, 8) := by kernel_rfl
theorem info44 : (Try.prog.info? 44).map (fun i => (i.zero, i.size, i.bytes)) = some (some (.agg #[(.int .i64 0), (.int .i64 0)]), 2, 16) := by kernel_rfl
-- the values' own types
/-! #### struct type 44 -/
structure S44 where
  f0 : Int
  f1 : Int
def z44 : S44 := ⟨(0 : Int), (0 : Int)⟩
def k44 : Kd S44 := Kd.iso (Kd.pair (Kd.int .i64) (Kd.int .i64)) (fun x : S44 => (x.f0, x.f1))
theorem k44_open {w : World} {x : S44} {cs : List Value} (h : k44.K w x cs) : cs = [.int .i64 x.f0, .int .i64 x.f1] := by
  obtain ⟨_, _, rfl, rfl, rfl⟩ := h
  exact rfl
theorem k44_openM {w : World} {base : Nat} {ok : Nat → Prop} {x : S44} {cs : List Value} (h : k44.M w base ok x cs) : cs = [.int .i64 x.f0, .int .i64 x.f1] := by
  obtain ⟨_, _, rfl, rfl, rfl⟩ := h
  exact rfl
theorem k44_mk (w : World) (x : S44)  : k44.K w x [.int .i64 x.f0, .int .i64 x.f1] := ⟨[.int .i64 x.f0], [.int .i64 x.f1], rfl, rfl, rfl⟩
theorem k44_mkM (w : World) (base : Nat) (ok : Nat → Prop) (x : S44)  : k44.M w base ok x [.int .i64 x.f0, .int .i64 x.f1] := ⟨[.int .i64 x.f0], [.int .i64 x.f1], rfl, rfl, rfl⟩
def rd_T44 (xs : List S44) (i : Int) : S44 := xs.getD i.toNat z44
theorem at_T44 {w : World} {A : Option Addr} {n : Nat} {xs : List S44} (h : Kd.C k44 w A n xs) (i : Int) (h0 : 0 ≤ i) (h1 : i < n) : ∃ ad , A = some ad ∧ w.cell? (ad.add (i.toNat * 2)) = some (.int .i64 (rd_T44 xs i).f0) ∧ w.cell? ⟨(ad.add (i.toNat * 2)).block, (ad.add (i.toNat * 2)).off + 1, none⟩ = some (.int .i64 (rd_T44 xs i).f1) := by
  obtain ⟨ad, c, e, _, hK, hc0⟩ := Kd.C_get h z44 i h0 h1
  have hc : ∀ j u, c[j]? = some u → w.cell? (ad.add (i.toNat * 2 + j)) = some u := hc0
  obtain rfl := k44_open hK
  exact ⟨ad, e, hc 0 _ rfl, by rw [← add_field _ _ 1 (by omega)]; exact hc 1 _ rfl⟩

theorem isSome_setCell_ (w : World) (p q : Addr) (v : Value) : ((w.setCell p v).cell? q).isSome = (w.cell? q).isSome := by
  cases h : w.cell? q with
  | some u =>
    obtain ⟨v', e⟩ := cell?_setCell_some (p := p) (x := v) h
    rw [e]; rfl
  | none =>
    by_cases e : p = q
    · subst e
      cases h2 : (w.setCell p v).cell? p with
      | none => rfl
      | some u =>
        exfalso
        unfold World.setCell World.cell? at h2
        unfold World.cell? at h
        simp only [Array.getElem?_modify] at h2
        cases h3 : w.heap[p.block]? with
        | none => simp [h3] at h2
        | some o =>
          cases o <;> simp_all
    · rw [World.cell?_setCell_other _ _ _ _ e, h]
theorem drewS_ {w' w : World} {n : Nat} {p : Addr} {v : Value} (h : w' = w.drewN n) : w'.setCell p v = (w.setCell p v).drewN n := by subst h; rfl
theorem drewC_ {w' w : World} {n : Nat} {p : Addr} {r : Option Value} (h : w' = w.drewN n) (hx : w.cell? p = r) : w'.cell? p = r := by subst h; exact hx

end Go.Proofs.Ytpbipijjihbjhaa.G
