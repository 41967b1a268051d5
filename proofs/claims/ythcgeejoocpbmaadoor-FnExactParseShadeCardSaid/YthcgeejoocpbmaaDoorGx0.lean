-- Printed by a program of this session (wip/tools/gp.sh); Lean checks it.
import Derived.Test.YthcgeejoocpbmaaDoorProg
import Derived.Below
import Derived.Deep.Draws
import Derived.Deep.AppendLies
import Derived.Maps.AppendAt
import Derived.OwnWalk
import Derived.Laws.BytesArg
import Derived.Laws.MakeOwn
import Derived.Laws.OwnMore
import Derived.Deep.OwnRows
import Derived.Tactics
import Derived.Lib.ConvBytes
import Derived.Laws.Slices
import Derived.WalkKit
import Derived.KernelRfl
import Derived.RowKit3
import Derived.Deep.LoopGhost
import Derived.Deep.QuietTactic
import Derived.BigQuiet
import Derived.WideLaws
import Derived.Deep.DeepCutAuto
import Derived.Deep.CutBlock
import Derived.Deep.RegionHeld3
import Derived.Laws.Rows
import Derived.Lib.AppendStr
import Derived.ArgAppend
import Derived.Laws.IdiomCopy
import Derived.OrdersHeld
import Derived.Laws.BitsLemmas
import Derived.RowKit
import Derived.Shelf.Abstract
import Derived.Lib.BufferMore
import Derived.Laws.Cover1
import Derived.Shelf.LaysM
import Derived.Shelf.Strconv.Itoa3
import Derived.Shelf.Strconv.ErrVarAll
import Derived.Lib.AtoiErrMem
import Derived.Lib.SplitLaws
import Derived.Shelf.Strings.Search2
import Derived.Shelf.Strings.Count
import Derived.Shelf.Strings.SlTrimAscii
import Derived.Shelf.Strings.Replace
import Derived.Test.YthcgeejoocpbmaaDoorShelf
import Derived.Test.YthcgeejoocpbmaaDoorWWords
import Derived.Test.YthcgeejoocpbmaaDoorWLast
import Derived.Test.YthcgeejoocpbmaaDoorWTab
import Derived.Test.YthcgeejoocpbmaaDoorWFour
import Derived.Test.YthcgeejoocpbmaaDoorWQPut
import Derived.Test.YthcgeejoocpbmaaDoorWApart
import Derived.Test.YthcgeejoocpbmaaDoorWArr
import Derived.Test.YthcgeejoocpbmaaDoorWZeros
import Derived.Test.YthcgeejoocpbmaaDoorWFoot
import Derived.Test.YthcgeejoocpbmaaDoorWKept
import Derived.Test.YthcgeejoocpbmaaDoorWShare
import Derived.Test.YthcgeejoocpbmaaDoorWN
import Derived.Test.YthcgeejoocpbmaaDoorWFootNe
import Derived.Test.YthcgeejoocpbmaaDoorWAt
import Derived.Test.YthcgeejoocpbmaaDoorWEqStruct
import Derived.Test.YthcgeejoocpbmaaDoorWRepsOne
import Derived.Test.YthcgeejoocpbmaaDoorWInv
import Derived.Test.YthcgeejoocpbmaaDoorWInvWords
import Derived.Test.YthcgeejoocpbmaaDoorWGuard
import Derived.Test.YthcgeejoocpbmaaDoorWNEv
import Derived.Test.YthcgeejoocpbmaaDoorWMore
namespace Go.Proofs.YthcgeejoocpbmaaDoor.G
open Go.RowKit Go.Proofs.YthcgeejoocpbmaaDoorW.PrintWords Go.Proofs.YthcgeejoocpbmaaDoorW.PrintLast Go.Proofs.YthcgeejoocpbmaaDoorW.PrintMore
attribute [local go_sem] max2_int min2_int max_two min_two max_three min_three max_four min_four   -- for this text's walks alone
set_option linter.unusedVariables false
set_option linter.unusedSimpArgs false



def errW : Option Int → Value
  | none => .nilIface
  | some c => .iface 51 (.int .i64 c)
theorem errW_none : errW none = .nilIface := rfl
theorem errW_some (c : Int) : errW (some c) = .iface 51 (.int .i64 c) := rfl

theorem info3 : (Tryd.prog.info? 3).map (fun i => (i.zero, i.size, i.bytes)) = some (some (.int .i64 0), 1, 8) := by kernel_rfl
theorem info9 : (Tryd.prog.info? 9).map (fun i => (i.zero, i.size, i.bytes)) = some (some (.string ⟨#[]⟩), 1, 16) := by kernel_rfl
-- the values' own types

theorem isSome_setCell_ (w : World) (p q : Addr) (v : Value) : ((w.setCell p v).cell? q).isSome = (w.cell? q).isSome := by
  cases h : w.cell? q with
  | some u =>
    obtain ⟨v', e⟩ := cell?_setCell_some (p := p) (x := v) h
    rw [e]; rfl
  | none =>
    by_cases e : p = q
    · subst e
      cases h2 : (w.setCell p v).cell? p with
      | none => rfl
      | some u =>
        exfalso
        unfold World.setCell World.cell? at h2
        unfold World.cell? at h
        simp only [Array.getElem?_modify] at h2
        cases h3 : w.heap[p.block]? with
        | none => simp [h3] at h2
        | some o =>
          cases o <;> simp_all
    · rw [World.cell?_setCell_other _ _ _ _ e, h]
theorem drewS_ {w' w : World} {n : Nat} {p : Addr} {v : Value} (h : w' = w.drewN n) : w'.setCell p v = (w.setCell p v).drewN n := by subst h; rfl
theorem drewC_ {w' w : World} {n : Nat} {p : Addr} {r : Option Value} (h : w' = w.drewN n) (hx : w.cell? p = r) : w'.cell? p = r := by subst h; exact hx

end Go.Proofs.YthcgeejoocpbmaaDoor.G
