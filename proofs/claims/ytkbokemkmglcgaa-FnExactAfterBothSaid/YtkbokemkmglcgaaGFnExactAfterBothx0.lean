-- Printed by a program of this session (wip/tools/gp.sh); Lean checks it.
import Derived.Test.YtkbokemkmglcgaaProg
import Derived.Below
import Derived.Deep.Draws
import Derived.Deep.AppendLies
import Derived.Maps.AppendAt
import Derived.OwnWalk
import Derived.Laws.BytesArg
import Derived.Laws.MakeOwn
import Derived.Laws.OwnMore
import Derived.Deep.OwnRows
import Derived.Tactics
import Derived.Lib.ConvBytes
import Derived.Laws.Slices
import Derived.WalkKit
import Derived.KernelRfl
import Derived.RowKit3
import Derived.Deep.LoopGhost
import Derived.Deep.QuietTactic
import Derived.BigQuiet
import Derived.WideLaws
import Derived.Deep.DeepCutAuto
import Derived.Deep.CutBlock
import Derived.Deep.RegionHeld3
import Derived.Laws.Rows
import Derived.Lib.AppendStr
import Derived.ArgAppend
import Derived.Laws.IdiomCopy
import Derived.OrdersHeld
import Derived.Laws.BitsLemmas
import Derived.RowKit
import Derived.Test.YtkbokemkmglcgaaWWords
import Derived.Test.YtkbokemkmglcgaaWLast
import Derived.Test.YtkbokemkmglcgaaWTab
import Derived.Test.YtkbokemkmglcgaaWFour
import Derived.Test.YtkbokemkmglcgaaWQPut
import Derived.Test.YtkbokemkmglcgaaWApart
import Derived.Test.YtkbokemkmglcgaaWArr
import Derived.Test.YtkbokemkmglcgaaWZeros
import Derived.Test.YtkbokemkmglcgaaWFoot
import Derived.Test.YtkbokemkmglcgaaWKept
import Derived.Test.YtkbokemkmglcgaaWShare
import Derived.Test.YtkbokemkmglcgaaWN
import Derived.Test.YtkbokemkmglcgaaWFootNe
import Derived.Test.YtkbokemkmglcgaaWAt
import Derived.Test.YtkbokemkmglcgaaWEqStruct
import Derived.Test.YtkbokemkmglcgaaWRepsOne
import Derived.Test.YtkbokemkmglcgaaWInv
import Derived.Test.YtkbokemkmglcgaaWInvWords
import Derived.Test.YtkbokemkmglcgaaWGuard
import Derived.Test.YtkbokemkmglcgaaWNEv
import Derived.Test.YtkbokemkmglcgaaWMore
namespace Go.Proofs.Ytkbokemkmglcgaa.GFnExactAfterBoth
open Go.RowKit Go.Proofs.YtkbokemkmglcgaaW.PrintWords Go.Proofs.YtkbokemkmglcgaaW.PrintLast Go.Proofs.YtkbokemkmglcgaaW.PrintMore
attribute [local go_sem] max2_int min2_int max_two min_two max_three min_three max_four min_four   -- for this text's walks alone
set_option linter.unusedVariables false
set_option linter.unusedSimpArgs false



def errW : Option Int → Value
  | none => .nilIface
  | some c => .iface 0 (.int .i64 c)
theorem errW_none : errW none = .nilIface := rfl
theorem errW_some (c : Int) : errW (some c) = .iface 0 (.int .i64 c) := rfl

-- the values' own types

end Go.Proofs.Ytkbokemkmglcgaa.GFnExactAfterBoth
